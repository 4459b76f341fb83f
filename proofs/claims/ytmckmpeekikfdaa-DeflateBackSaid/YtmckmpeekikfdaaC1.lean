/- Part C1. -/
import Derived.KernelRfl
import Derived.Test.YtmckmpeekikfdaaAP
set_option linter.unusedSimpArgs false
set_option linter.unusedVariables false
namespace Ab
open Go
theorem RT:type_of% @List.getD_eq_getElem?_getD:= @List.getD_eq_getElem?_getD
theorem RU:type_of% @List.length_cons:= @List.length_cons
theorem RW:type_of% @List.getElem?_eq_getElem:= @List.getElem?_eq_getElem
theorem RX:type_of% @List.length_nil:= @List.length_nil
theorem RY:type_of% @decide_eq_false:= @decide_eq_false
theorem RZ:type_of% @Option.map_some:= @Option.map_some
theorem R0:type_of% @decide_eq_true:= @decide_eq_true
theorem R1:type_of% @List.flatMap_cons:= @List.flatMap_cons
theorem R2:type_of% @Int.eq_ofNat_of_zero_le:= @Int.eq_ofNat_of_zero_le
theorem R3:type_of% @List.map_cons:= @List.map_cons
theorem R4:type_of% @List.mem_map:= @List.mem_map
theorem R5:type_of% @List.getElem?_append_left:= @List.getElem?_append_left
theorem R6:type_of% @List.getElem?_append_right:= @List.getElem?_append_right
theorem R7:type_of% @List.append_assoc:= @List.append_assoc
theorem R8:type_of% @List.getElem?_eq_none:= @List.getElem?_eq_none
theorem R9:type_of% @List.length_replicate:= @List.length_replicate
theorem Sa:type_of% @List.getElem?_set:= @List.getElem?_set
theorem Sb:type_of% @List.getElem_mem:= @List.getElem_mem
theorem Sc:type_of% @Nat.pow_le_pow_right:= @Nat.pow_le_pow_right
theorem Sd:type_of% @List.append_nil:= @List.append_nil
theorem Se:type_of% @Classical.byContradiction:= @Classical.byContradiction
theorem Sf:type_of% @List.drop_zero:= @List.drop_zero
theorem Sg:type_of% @List.length_set:= @List.length_set
theorem Si:type_of% @List.eq_nil_of_length_eq_zero:= @List.eq_nil_of_length_eq_zero
theorem Sj:type_of% @List.mem_append:= @List.mem_append
theorem Sk:type_of% @List.getElem?_replicate:= @List.getElem?_replicate
theorem Sl:type_of% @List.sum_cons:= @List.sum_cons
theorem Sm:type_of% @List.eq_of_mem_replicate:= @List.eq_of_mem_replicate
theorem Sn:type_of% @congrArg:= @congrArg
theorem So:type_of% @List.getElem?_range:= @List.getElem?_range
theorem Sp:type_of% @List.map_congr_left:= @List.map_congr_left
theorem Sq:type_of% @List.mem_or_eq_of_mem_set:= @List.mem_or_eq_of_mem_set
theorem Sr:type_of% @List.length_singleton:= @List.length_singleton
theorem Ss:type_of% @Int.le_refl:= @Int.le_refl
theorem Su:type_of% @List.length_take:= @List.length_take
theorem Sv:type_of% @List.mem_iff_getElem:= @List.mem_iff_getElem
theorem Sw:type_of% @List.mem_cons_of_mem:= @List.mem_cons_of_mem
theorem Sx:type_of% @Option.map_none:= @Option.map_none
theorem Sy:type_of% @List.Perm.refl:= @List.Perm.refl
theorem Sz:type_of% @List.nodup_cons:= @List.nodup_cons
theorem SA:type_of% @List.map_nil:= @List.map_nil
theorem SD:type_of% @List.take_zero:= @List.take_zero
attribute [local congr] sP
def wK (l:List Int) (n:Nat):Nat:=if n=0 then 0 else l.countP (fun x=>x==(n:Int))
def syms (l:List Int) (n:Nat):List Int:=if n=0 then []else l.zipIdx.filterMap fun p=>if p.1=(n:Int)then some (p.2:Int)else none
theorem zf (p:List Int) (x:Int) (n:Nat):wK (p++[x]) n=wK p n+if n≠0∧x=(n:Int)then 1 else 0:=by
 unfold wK
 by_cases hn:n=0
 · simp [hn]
 · simp [hn,List.countP_append,List.countP_cons]
theorem zS (p:List Int) (x:Int) (n:Nat):syms (p++[x]) n=syms p n++if n≠0∧x=(n:Int)then [(p.length:Int)]else []:=by
 unfold syms
 by_cases hn:n=0
 · simp [hn]
 · simp [hn,List.zipIdx_append,List.filterMap_append]
   split<;>simp_all
theorem GQ (l:List Int) (n:Nat):(syms l n).length≤l.length:=by
 unfold syms
 split
 · simp
 · refine uS (List.length_filterMap_le _ _) ?_
   simp
theorem z4 (l:List Int) (n:Nat):wK l n≤l.length:=by
 unfold wK
 split
 · omega
 · exact List.countP_le_length
structure Bk (h0 h:H) (b:Nat) (C:Nat→AV) (p:List Int):Prop where
 get:h.get b=some (m0 49 C)
 fl:h.floor=h0.next
 fb:h0.next≤b
 nx:h.floor≤h.next
 low:∀id,id<h0.next→h.get id=h0.get id
 Jm:∀n,n<16→C (16+n)=I (wK p n)
 own:∀n,n<16→mZ h (C (32+n)) (ints (syms p n))
 nb:∀n,n<16→(C (32+n)).id?≠some b
 KS:∀n m,n<16→m<16→n≠m→∀i,(C (32+n)).id?=some i→(C (32+m)).id?≠some i
set_option maxHeartbeats 1000000 in
theorem I6 (h0 h : H) (b : Nat) (C : Nat → AV) (p : List Int) (n : Nat) (x : AV) (N : Int) (bk : Bk h0 h b C p) (hn1 : 0 < n) (hn : n < 16) (hp : p.length < 100000) (hel : ∃ a, fE 1 x (I p.length) = some a ∧ ∀ g : H, (∀ id c, h0.get id = some c → g.get id = some c) → bO false 1 a g = some (I n)) (hN : (p.length : Int) < N) :
 ∃h' C',aL (aR AP.A) bp AP.f41L1 [(3,.aD b 0),(10,x),(11,I N),(12,I p.length)] h=some (.normal,[(3,.aD b 0),(10,x),(11,I N),(12,I (p.length+1))],h')∧Bk h0 h' b C' (p++[(n:Int)])∧∀i,(i<16∨i=48)→C' i=C i:=by
 obtain⟨a,ha1,ha2⟩:=hel
 have hlow:∀id c,h0.get id=some c→h.get id=some c:=fun id c q=>by rw[bk.low id (h0.lt id c q)];exact q
 have hld:=ha2 h hlow
 have hx:cH (I n) 16=some n:=jY hn
 have g1:(m0 49 C)[16+n]?=some (I (wK p n)):=by rw[fC (by omega),bk.Jm n hn]
 have hcl:=z4 p n
 have hw:IntKind.wrap .i64 ((wK p n:Int)+1)=wK p n+1:=td (by omega) (by omega)
 have hw2:IntKind.wrap .i64 ((p.length:Int)+1)=p.length+1:=td (by omega) (by omega)
 have hfb:h.floor≤b:=by rw[bk.fl];exact bk.fb
 have hs1:(m0 49 C).set (16+n) (I (wK p n+1))=m0 49 (tI C (16+n) (I (wK p n+1))):=tc (by omega) _
 obtain⟨C1,eC1⟩:∃D,D=tI C (16+n) (I (wK p n+1)):=⟨_,rfl⟩
 rw[←eC1]at hs1
 obtain⟨h1,eh1⟩:∃g,g=(h.set b (m0 49 C1)).alloc [I p.length]:=⟨_,rfl⟩
 have hbn:b<h.next:=h.lt _ _ bk.get
 have hb1:h1.get b=some (m0 49 C1):=by
  rw[eh1,H.aW,H.jg,if_neg (by omega),H.de,if_pos rfl,bk.get];rfl
 have hC1:C1 (32+n)=C (32+n):=by rw[eC1,tI,if_neg (by omega)]
 have hlo1:∀i,i≠b→i≠h.next→h1.get i=h.get i:=fun i q1 q2=>by
  rw[eh1,H.aW,H.jg,if_neg q2,H.de,if_neg q1]
 have hfl1:h1.floor=h.floor:=by rw[eh1];simp
 have hnx1:h1.next=h.next+1:=by rw[eh1];simp
 have ho1:∀m,m<16→mZ h1 (C (32+m)) (ints (syms p m)):=fun m hm=>
  (bk.own m hm).mono hfl1 fun i hi=>hlo1 i (fun e=>bk.nb m hm (e ▸ hi)) (by have:=(bk.own m hm).lt hi;omega)
 have hsl:=GQ p n
 have hnxf:=bk.nx
 obtain⟨v',h2,q1,q2,q3,q4,q5,q6⟩:=(ho1 n hn).app (by omega) (z:=8) (I p.length) rfl (by simp [roomy];omega)
 have g2:(m0 49 C1)[32+n]?=some (C (32+n)):=by rw[fC (by omega),hC1]
 have hb2:h2.get b=some (m0 49 C1):=by rw[q5 b (bk.nb n hn) (by omega)];exact hb1
 have hs2:(m0 49 C1).set (32+n) v'=m0 49 (tI C1 (32+n) v'):=tc (by omega) _
 have hfl2:h2.floor≤b:=by have:=bk.fb;have:=bk.fl;omega
 have hv':v'.cells=[v']∧v'.sc=true:=by
  rcases q2 with ⟨rfl,_⟩|⟨id,rfl,_⟩<;>exact⟨rfl,rfl⟩
 have b1:16+n≤48:=by omega
 have b2:32+n≤48:=by omega
 have hal:(h.set b (m0 49 C1)).get b=some (m0 49 C1):=by rw[H.de,if_pos rfl,bk.get];rfl
 have hal2:h1.get h.next=some [I p.length]:=by rw[eh1,H.aW,H.jg,if_pos rfl]
 refine⟨h2.set b (m0 49 (tI C1 (32+n) v')),tI C1 (32+n) v', ?_, ?_,fun i hi=>by rw[tI,if_neg (by omega),eC1,tI,if_neg (by omega)]⟩
 · simp only[I]at *
   simp [AP.f41L1,aL,au,aN,ai,ah,bn,aY,ha1,hld,hN,hn1,hx,bk.get,g1,hw,hw2,hfb,hs1,dy,dI,kg,aS,H.aW,bS.aO,b1,b2,hal,g2,←eh1,hal2,q1,hb2,hs2,hfl2,hv'.1,hv'.2]
 · refine⟨by rw[H.de,if_pos rfl,hb2];rfl,by simp;rw[q3,hfl1,bk.fl],bk.fb,by simp;omega,fun id hid=> ?_,fun m hm=> ?_,fun m hm=> ?_,fun m hm=> ?_,fun m k hm hk hne i hi=> ?_⟩
   · have hfb':=bk.fb
     have hfl':=bk.fl
     rw[H.de,if_neg (by omega),q5 id ?_ (by omega),hlo1 id (by omega) (by omega),bk.low id hid]
     intro hi
     rcases bk.own n hn with ⟨e,_⟩|⟨k,e,_,q⟩
     · rw[e]at hi;cases hi
     · rw[e]at hi;cases hi;have:=q.1;omega
   · rw[tI,if_neg (by omega),eC1,tI,zf]
     by_cases e:m=n
     · subst e;rw[if_pos rfl,if_pos ⟨by omega,rfl⟩];simp
     · rw[if_neg (by omega),bk.Jm m hm,if_neg (by omega)];simp
   · have hm32:tI C1 (32+n) v' (32+m)=if m=n then v' else C (32+m):=by
      simp only[tI]
      by_cases e:m=n
      · rw[if_pos (by omega),if_pos e]
      · rw[if_neg (by omega),if_neg e,eC1,tI,if_neg (by omega)]
     rw[hm32,zS]
     by_cases e:m=n
     · subst e
       rw[if_pos rfl,if_pos ⟨by omega,rfl⟩,ph]
       refine q2.mono (by simp) fun i hi=> ?_
       rw[H.de,if_neg]
       intro e2;subst e2;rw[q6]at hi;cases hi;omega
     · rw[if_neg e,if_neg (by omega),Sd]
       refine(ho1 m hm).mono (by simp;omega) fun i hi=> ?_
       have hlt:=(bk.own m hm).lt hi
       rw[H.de,if_neg (fun (e2:i=b)=>bk.nb m hm (e2 ▸ hi)),q5 i (bk.KS m n hm hn e i hi) (by omega)]
   · have hm32:tI C1 (32+n) v' (32+m)=if m=n then v' else C (32+m):=by
      simp only[tI]
      by_cases e:m=n
      · rw[if_pos (by omega),if_pos e]
      · rw[if_neg (by omega),if_neg e,eC1,tI,if_neg (by omega)]
     rw[hm32]
     by_cases e:m=n
     · rw[if_pos e,q6];intro e2;cases e2;omega
     · rw[if_neg e];exact bk.nb m hm
   · have hm32:∀m,tI C1 (32+n) v' (32+m)=if m=n then v' else C (32+m):=fun m=>by
      simp only[tI]
      by_cases e:m=n
      · rw[if_pos (by omega),if_pos e]
      · rw[if_neg (by omega),if_neg e,eC1,tI,if_neg (by omega)]
     rw[hm32]at hi ⊢
     by_cases e:m=n
     · rw[if_pos e,q6]at hi
       cases hi
       rw[if_neg (by omega)]
       intro e2;have:=(bk.own k hk).lt e2;omega
     · rw[if_neg e]at hi
       by_cases e3:k=n
       · rw[if_pos e3,q6];intro e2;cases e2;have:=(bk.own m hm).lt hi;omega
       · rw[if_neg e3];exact bk.KS m k hm hk hne i hi
set_option maxHeartbeats 1000000 in
theorem I7 (h0 h:H) (b:Nat) (C:Nat→AV) (p:List Int) (x:AV) (N:Int) (bk:Bk h0 h b C p) (hp:p.length<100000) (hel:∃a,fE 1 x (I p.length)=some a∧∀g:H,(∀id c,h0.get id=some c→g.get id=some c)→bO false 1 a g=some (I 0)) (hN:(p.length:Int)<N):
 aL (aR AP.A) bp AP.f41L1 [(3,.aD b 0),(10,x),(11,I N),(12,I p.length)] h=some (.normal,[(3,.aD b 0),(10,x),(11,I N),(12,I (p.length+1))],h)∧Bk h0 h b C (p++[0]):=by
 obtain⟨a,ha1,ha2⟩:=hel
 have hlow:∀id c,h0.get id=some c→h.get id=some c:=fun id c q=>by rw[bk.low id (h0.lt id c q)];exact q
 have hld:=ha2 h hlow
 have hw2:IntKind.wrap .i64 ((p.length:Int)+1)=p.length+1:=td (by omega) (by omega)
 refine⟨?_,⟨bk.get,bk.fl,bk.fb,bk.nx,bk.low,fun n hn=> ?_,fun n hn=> ?_,bk.nb,bk.KS⟩⟩
 · simp only[I]at *
   simp [AP.f41L1,aL,au,aN,ai,ah,ha1,hld,hN,hw2]
 · rw[bk.Jm n hn,zf,if_neg (by omega)];simp
 · have:=bk.own n hn
   rw[zS,if_neg (by omega),Sd];exact this
theorem Eg (h0 : H) (b : Nat) (x : AV) (l : List Int) (hl : l.length < 100000) (hr : ∀ y ∈ l, 0 ≤ y ∧ y < 16) (hx : Rd h0 x (ints l)) : ∀ (m : Nat) (p q : List Int) (C : Nat → AV) (h : H), l = p ++ q → q.length = m → Bk h0 h b C p →
 ∃h' C' e',Lp AP.A [3,10,11,12] AP.f41L1 [(3,.aD b 0),(10,x),(11,I l.length),(12,I p.length)] h=some (.exit 0,e',h')∧look e' 3=.aD b 0∧Bk h0 h' b C' l∧∀i,(i<16∨i=48)→C' i=C i
 | 0, p, [], C, h, hpq, _, bk => by
   refine⟨h,C, ?_⟩
   have:l=p:=by simpa using hpq
   subst this
   refine⟨_,sM (e':=[(3,.aD b 0),(10,x),(11,I l.length),(12,I l.length),(13,.bool false)]) ?_,rfl,bk,fun _ _=>rfl⟩
   simp [AP.f41L1,aL,au,ai,ah,I]
 | m + 1, p, y :: q, C, h, hpq, hm, bk => by
   have hmem:y∈l:=by rw[hpq];simp
   obtain⟨h1,h2⟩:=hr y hmem
   have hget:l[p.length]?=some y:=by rw[hpq];simp
   have hel:=hx.elem (sq hget)
   have hlen:p.length<l.length:=(uu.1 hget).1
   obtain⟨n,rfl⟩:=R2 h1
   have next:∃h' C',aL (aR AP.A) bp AP.f41L1 [(3,.aD b 0),(10,x),(11,I l.length),(12,I p.length)] h=some (.normal,[(3,.aD b 0),(10,x),(11,I l.length),(12,I (p.length+1))],h')∧Bk h0 h' b C' (p++[(n:Int)])∧∀i,(i<16∨i=48)→C' i=C i:=by
    by_cases hn:n=0
    · subst hn
      have z:=I7 h0 h b C p x l.length bk (by omega) hel (by omega)
      exact⟨h,C,z.1,z.2,fun _ _=>rfl⟩
    · exact I6 h0 h b C p n x l.length bk (by omega) (by omega) (by omega) hel (by omega)
   obtain⟨h',C',s1,bk',hC'⟩:=next
   have ih:=Eg h0 b x l hl hr hx m (p++[(n:Int)]) q C' h' (by rw[hpq];simp) (by simpa using hm) bk'
   obtain⟨h2,C2,e2,k1,k2,k3,k4⟩:=ih
   exact⟨h2,C2,e2,sN s1 (by simpa using k1),k2,k3,fun i hi=>by rw[k4 i hi,hC' i hi]⟩
def ve (l:List Int):Nat→Int
 |0=>0
 |n+1=>(ve l n+wK l n)* 2
def vo (l:List Int):Nat→Int
 |0=>1
 |n+1=>vo l n* 2-wK l (n+1)
theorem Bn {l:List Int} (hl:l.length<100000) (n:Nat):0≤ve l n∧ve l n≤200000* 2^n-200000:=by
 induction n with
 |zero=>simp [ve]
 |succ n ih=>have:=z4 l n;simp only[ve,Int.pow_succ];omega
theorem J3 {l:List Int} (hl:l.length<100000) (n:Nat): -(200000* 2^n-100000)≤vo l n∧vo l n≤2^n:=by
 induction n with
 |zero=>simp [vo]
 |succ n ih=>have:=z4 l (n+1);simp only[vo,Int.pow_succ];omega
theorem BB {m:Nat} (hm:m≤15):(2:Int)^m≤32768:=by
 have h:(2:Nat)^m≤2^15:=Sc (by omega) hm
 have h2:((2^m:Nat):Int)≤((2^15:Nat):Int):=Int.ofNat_le.2 h
 simpa using h2
theorem Bk.put {h0 h:H} {b:Nat} {C:Nat→AV} {p:List Int} (bk:Bk h0 h b C p) {i:Nat} (hi:i<16∨i=48) (v:AV):Bk h0 (h.set b (m0 49 (tI C i v))) b (tI C i v) p:=by
 have c:∀j,16≤j→j<48→tI C i v j=C j:=fun j h1 h2=>by rw[tI,if_neg (by omega)]
 have hbn:b<h.next:=h.lt _ _ bk.get
 refine⟨by rw[H.de,if_pos rfl,bk.get];rfl,by simp [bk.fl],bk.fb,by simp [bk.nx],fun id hid=> ?_,fun n hn=> ?_,fun n hn=> ?_,fun n hn=> ?_,fun n m hn hm hne k hk=> ?_⟩
 · have:=bk.fb
   rw[H.de,if_neg (by omega)];exact bk.low id hid
 · rw[c _ (by omega) (by omega)];exact bk.Jm n hn
 · rw[c _ (by omega) (by omega)]
   refine(bk.own n hn).mono (by simp) fun k hk=> ?_
   rw[H.de,if_neg];intro (e:k=b);exact bk.nb n hn (e ▸ hk)
 · rw[c _ (by omega) (by omega)];exact bk.nb n hn
 · rw[c _ (by omega) (by omega)]at hk ⊢;exact bk.KS n m hn hm hne k hk
set_option maxHeartbeats 1000000 in
theorem Ho (h0 h:H) (b:Nat) (C:Nat→AV) (l:List Int) (m:Nat) (bk:Bk h0 h b C l) (hl:l.length<100000) (hm:m<15) (hc:C 48=I (vo l m)):
 aL (aR AP.A) bp AP.f41L0 [(3,.aD b 0),(6,I (ve l m)),(7,I (m+1))] h=
  some (.normal,[(3,.aD b 0),(6,I (ve l (m+1))),(7,I (m+1+1))],(h.set b (m0 49 (tI C (m+1) (I (ve l (m+1)))))).set b (m0 49 (tI (tI C (m+1) (I (ve l (m+1)))) 48 (I (vo l (m+1)))))):=by
 have hp:=BB (m:=m) (by omega)
 have hf:=Bn hl m
 have hlf:=J3 hl m
 have c1:=z4 l m
 have c2:=z4 l (m+1)
 have w1:IntKind.wrap .i64 (m:Int)=m:=td (by omega) (by omega)
 have w2:IntKind.wrap .i64 (ve l m+wK l m)=ve l m+wK l m:=td (by omega) (by omega)
 have w3:IntKind.wrap .i64 ((ve l m+wK l m)* 2)=ve l (m+1):=td (by omega) (by omega)
 have w4:IntKind.wrap .i64 (vo l m* 2)=vo l m* 2:=td (by omega) (by omega)
 have w5:IntKind.wrap .i64 (vo l m* 2-wK l (m+1))=vo l (m+1):=td (by omega) (by omega)
 have w6:IntKind.wrap .i64 ((m:Int)+1+1)=m+1+1:=td (by omega) (by omega)
 have x1:cH (I m) 16=some m:=jY (by omega)
 have x2:cH (I (m+1)) 16=some (m+1):=jY (i:=m+1) (by omega)
 have g1:(m0 49 C)[16+m]?=some (I (wK l m)):=by rw[fC (by omega),bk.Jm m (by omega)]
 obtain⟨C1,e1⟩:∃D,D=tI C (m+1) (I (ve l (m+1))):=⟨_,rfl⟩
 have s1:(m0 49 C).set (m+1) (I (ve l (m+1)))=m0 49 C1:=by rw[e1];exact tc (by omega) _
 have g2:(m0 49 C1)[16+(m+1)]?=some (I (wK l (m+1))):=by rw[fC (by omega),e1,tI,if_neg (by omega),bk.Jm (m+1) (by omega)]
 have g3:(m0 49 C1)[48]?=some (I (vo l m)):=by rw[fC (by omega),e1,tI,if_neg (by omega),hc]
 have g4:C1 48=I (vo l m):=by rw[e1,tI,if_neg (by omega),hc]
 have s2:(m0 49 C1).set 48 (I (vo l (m+1)))=m0 49 (tI C1 48 (I (vo l (m+1)))):=tc (by omega) _
 have hfb:h.floor≤b:=by rw[bk.fl];exact bk.fb
 have ge:(h.set b (m0 49 C1)).get b=some (m0 49 C1):=by rw[H.de,if_pos rfl,bk.get];rfl
 have b1:m+1≤48:=by omega
 have b3:m≤47:=by omega
 have b4:m≤14:=by omega
 have b2:(m:Int)+1≤15:=by omega
 rw[←e1]
 simp only[I]at *
 simp [AP.f41L0,aL,au,aN,ai,ah,bk.get,w1,w2,w3,w4,w5,w6,x1,x2,g1,g2,g3,g4,s1,s2,hfb,ge,b1,b2,b3,b4]
theorem C9 (h0:H) (b:Nat) (l:List Int) (hl:l.length<100000):∀(k m:Nat) (C:Nat→AV) (h:H),m+k=15→Bk h0 h b C l→C 48=I (vo l m)→(∀i,i≤m→C i=I (ve l i))→
 ∃h' C' e',Lp AP.A [3,6,7] AP.f41L0 [(3,.aD b 0),(6,I (ve l m)),(7,I (m+1))] h=some (.exit 2,e',h')∧look e' 3=.aD b 0∧Bk h0 h' b C' l∧C' 48=I (vo l 15)∧∀i,i≤15→C' i=I (ve l i)
 | 0, m, C, h, hk, bk, hc, hf => by
   obtain rfl:m=15:=by omega
   refine⟨h,C,[(3,.aD b 0),(6,I (ve l 15)),(7,I 16),(45,.bool false)],sM ?_,rfl,bk,hc,hf⟩
   have e:((15:Nat):Int)+1=16:=rfl
   rw[e]
   simp [AP.f41L0,aL,au,ai,ah,I]
 | k + 1, m, C, h, hk, bk, hc, hf => by
   have st:=Ho h0 h b C l m bk hl (by omega) hc
   have bk1:=(bk.put (i:=m+1) (.inl (by omega)) (I (ve l (m+1)))).put (i:=48) (.inr rfl) (I (vo l (m+1)))
   obtain⟨h',C',e',k1,k2⟩:=C9 h0 b l hl k (m+1) _ _ (by omega) bk1 (by simp [tI]) (fun i hi=>by
    rw[tI,if_neg (by omega),tI]
    by_cases e:i=m+1
    · rw[if_pos e,e]
    · rw[if_neg e];exact hf i (by omega))
   exact⟨h',C',e',sN st (by simpa using k1),k2⟩
def y9 (l:List AV):AV:=if l=[]then .aP else .aV false l 0 l.length 1
def wF (l:List Int):Nat→AV:=fun i=>if i<16 then I (ve l i)else if i<32 then I (wK l (i-16))else if i<48 then y9 (ints (syms l (i-32)))else I (vo l 15)
def vu (l:List Int):AV:=.aK (m0 49 (wF l)) 0
theorem Lv {f:AV→Option AV} {C D:Nat→AV}:∀(n:Nat),(∀i,i<n→f (C i)=some (D i))→fq f (m0 n C)=some (m0 n D):=by
 have key:∀(l:List Nat),(∀i∈l,f (C i)=some (D i))→fq f (l.map C)=some (l.map D):=by
  intro l
  induction l with
  |nil=>intro _;rfl
  |cons i l ih=>intro h;simp [fq,h i (by simp),ih (fun j hj=>h j (by simp [hj]))]
 exact fun n h=>key _ fun i hi=>h i (List.mem_range.1 hi)
theorem xz (g:Nat→Option (List AV)) (fl n:Nat) (t:Bool):∀l:List Int,fq (snap g fl (n+1) t) (ints l)=some (ints l)
 |[]=>rfl
 | x :: l => by
   have:=xz g fl n t l
   simp only[ints,R3,fq]at this ⊢
   rw[this];rfl
theorem Kv {h:H} {v:AV} {cs:List AV} {fl n:Nat} (o:mZ h v cs) (hf:fl≤h.floor) (hm:fq (snap h.get fl (n+1) false) cs=some cs):snap h.get fl (n+2) false v=some (y9 cs):=by
 rcases o with ⟨rfl,rfl⟩|⟨id,rfl,hg,hfl,hne⟩
 · rfl
 · have h1:¬id<fl:=by omega
   simp only[snap,if_neg h1,hg,uv,uF,Nat.mul_one,Sf,List.take_length,uy,if_true,hm,y9,if_neg hne]
def C0:Nat→AV:=fun i=>if i<32 then I 0 else if i<48 then .aP else I 1
set_option maxHeartbeats 1000000 in
theorem zq (h : H) (x : AV) (l : List Int) (hl : l.length < 100000) (hr : ∀ y ∈ l, 0 ≤ y ∧ y < 16) (hx : Rd h x (ints l)) : aR AP.A 41 [x] h = some (vu l, h) := by
 have hb0:Bk h (h.dH.alloc (m0 49 C0)) h.next C0 []:=by
  refine⟨by simp [H.aW],by simp,uy _,by simp,fun id hid=> ?_,fun n hn=> ?_,fun n hn=> ?_,fun n hn=> ?_,fun n m hn hm hne i hi=> ?_⟩
  · rw[H.aW,if_neg (by simp;omega)];rfl
  · simp only[C0,wK,List.countP_nil];rw[if_pos (by omega)];simp
  · simp only[C0];rw[if_neg (by omega),if_pos (by omega)]
    exact .inl ⟨rfl,by unfold syms;split<;>rfl⟩
  · simp only[C0];rw[if_neg (by omega),if_pos (by omega)];exact nofun
  · simp only[C0]at hi;rw[if_neg (by omega),if_pos (by omega)]at hi;cases hi
 obtain⟨h1,D1,e1,k1,k2,bk1,k3⟩:=Eg h h.next x l hl hr hx l.length [] l C0 _ rfl rfl hb0
 obtain⟨h2,D2,e2,k4,k5,bk2,k6,k7⟩:=C9 h h.next l hl 15 0 D1 h1 rfl bk1 (by rw[k3 48 (.inr rfl)];rfl) (fun i hi=>by
  obtain rfl:i=0:=by omega
  rw[k3 0 (.inl (by omega))];rfl)
 have kx:aL (aR AP.A) bp AP.f41.body (params 0 [x]) h.dH=some (.ret,[(2,.aD h.next 0)],h2):=by
  unfold AP.f41
  refine tU (e1:=[(0,x)]) (h1:=h.dH) rfl ?_
  refine tU (e1:=[(0,x),(3,.aD h.next 0)]) (h1:=h.dH.alloc (m0 49 C0)) rfl ?_
  refine tU (e1:=[(3,.aD h.next 0)]) (h1:=h1) ?_ ?_
  · refine tU (e1:=[(3,.aD h.next 0),(10,x),(11,I l.length),(12,I 0)]) (h1:=h.dH.alloc (m0 49 C0)) ?_ ?_
    · simp [aL,au,ai,ah,hx.len,I]
    · have:=pQ (k:=[3]) k1
      simp only[qM,rh,k2]at this
      exact this
  refine tU (e1:=[(3,.aD h.next 0),(6,I 0)]) (h1:=h1) rfl ?_
  refine tU (e1:=[(3,.aD h.next 0)]) (h1:=h2) ?_ ?_
  · refine tU (e1:=[(3,.aD h.next 0),(6,I 0),(7,I 1)]) (h1:=h1) rfl ?_
    have:=pQ (k:=[3]) k4
    simp only[qM,rh,k5]at this
    exact this
  exact tU (e1:=[(2,.aD h.next 0)]) (h1:=h2) rfl rfl
 have hsn:snap h2.get h.next 16 true (.aD h.next 0)=some (vu l):=by
  have hm:fq (snap h2.get h.next 15 false) (m0 49 D2)=some (m0 49 (wF l)):=by
   refine Lv 49 fun i hi=> ?_
   by_cases c1:i<16
   · rw[k7 i (by omega),wF,if_pos c1];rfl
   by_cases c2:i<32
   · have:=bk2.Jm (i-16) (by omega)
     rw[show 16+(i-16)=i by omega]at this
     rw[this,wF,if_neg c1,if_pos c2];rfl
   by_cases c3:i<48
   · have:=bk2.own (i-32) (by omega)
     rw[show 32+(i-32)=i by omega]at this
     rw[wF,if_neg c1,if_neg c2,if_pos c3]
     exact Kv (n:=13) this (by rw[bk2.fl];exact uy _) (xz _ _ _ _ _)
   · obtain rfl:i=48:=by omega
     rw[k6,wF,if_neg c1,if_neg c2,if_neg c3];rfl
  simp only[snap,if_neg (Nat.lt_irrefl _),bk2.get,uv,hm,vu]
 exact tE (fn:=AP.f41) rfl rfl rfl kx rfl hsn
theorem xW (w n:Nat) (h:n<2^w):(BitVec.ofInt w (n:Int)).toNat=n:=by
 rw[BitVec.ofInt_natCast,BitVec.toNat_ofNat,Nat.mod_eq_of_lt h]
theorem u4 {n:Nat} (h:n<9223372036854775808):IntKind.wrap .i64 (n:Int)=n:=td (by omega) (by omega)
theorem wrap_u8 {n:Nat} (h:n<256):IntKind.wrap .u8 (n:Int)=n:=by
 have e:IntKind.wrap .u8 (n:Int)=(n:Int)%256:=by simp [IntKind.wrap,IntKind.bits,IntKind.signed]
 rw[e];omega
theorem K3 {a b:Nat} (ha:a<9223372036854775808) (hb:b<9223372036854775808):bits .or .i64 (a:Int) (b:Int)=((a|||b:Nat):Int):=by
 have h1:a<2^63:=by simpa using ha
 have h2:b<2^63:=by simpa using hb
 have h3:a|||b<2^63:=Nat.or_lt_two_pow h1 h2
 show IntKind.wrap .i64 (((BitVec.ofInt 64 (a:Int)|||BitVec.ofInt 64 (b:Int)).toNat:Nat):Int)=_
 rw[BitVec.toNat_or,xW 64 a (by omega),xW 64 b (by omega)]
 exact u4 (by simpa using h3)
theorem IH {a b:Nat} (ha:a<256) (hb:b<256):bits .and .u8 (a:Int) (b:Int)=((a&&&b:Nat):Int):=by
 have h3:a&&&b<2^8:=Nat.and_lt_two_pow _ (by simpa using hb)
 show IntKind.wrap .u8 (((BitVec.ofInt 8 (a:Int)&&&BitVec.ofInt 8 (b:Int)).toNat:Nat):Int)=_
 rw[BitVec.toNat_and,xW 8 a (by omega),xW 8 b (by omega)]
 exact wrap_u8 (by simpa using h3)
theorem Ka {x b i:Nat} (hx:x<2^i):x|||b* 2^i=x+b* 2^i:=by
 have:=Nat.two_pow_add_eq_or_of_lt hx b
 rw[Nat.or_comm,Nat.mul_comm b,←this,Nat.add_comm]
@[simp] theorem Jt {k j : IntKind} {a b : Int} : bj .shr (.int k a) (.int j b) = oP .shr k a b := rfl
@[simp] theorem Js {k j : IntKind} {a b : Int} : bj .shl (.int k a) (.int j b) = oP .shl k a b := rfl
attribute [go_sem] Js Jt
theorem OD {a s:Nat} (hs:s≤8):oP .shr .u8 (a:Int) (s:Int)=some (.int .u8 ((a/2^s:Nat):Int)):=by
 unfold oP
 rw[if_neg (by omega)]
 simp only[IntKind.bits,Int.toNat_natCast,Nat.min_eq_left hs]
 congr 2
 rw[Int.fdiv_eq_ediv_of_nonneg _ (Int.pow_nonneg (by omega))]
 simp
theorem Bb {a s:Nat} (hs:s≤64) (h:a* 2^s<9223372036854775808):oP .shl .i64 (a:Int) (s:Int)=some (.int .i64 ((a* 2^s:Nat):Int)):=by
 unfold oP
 rw[if_neg (by omega)]
 simp only[IntKind.bits,Int.toNat_natCast,Nat.min_eq_left hs]
 congr 2
 rw[←u4 h];simp
def wQ (s:ByteArray) (p:Nat):Nat:=((s[p/8]?).map (·.toNat)).getD 0/2^(p%8)%2
theorem FI (s:ByteArray) (p:Nat):wQ s p≤1:=by unfold wQ;omega
def u0 (s:ByteArray) (p:Nat):Nat→Nat
 |0=>0
 |n+1=>u0 s p n+wQ s (p+n)* 2^n
theorem wE (s:ByteArray) (p:Nat):∀n,u0 s p n<2^n
 |0=>by simp [u0]
 | n + 1 => by
   have h:=wE s p n
   have b:=FI s (p+n)
   have hb:wQ s (p+n)=0∨wQ s (p+n)=1:=by omega
   rw[u0,Nat.pow_succ]
   rcases hb with hb|hb<;>rw[hb]<;>omega
theorem zE (l:List Int) (n:Nat):(syms l n).length=wK l n:=by
 have key:∀(l:List Int) (k:Nat),((l.zipIdx k).filterMap fun p=>if p.1=(n:Int)then some (p.2:Int)else none).length=l.countP (fun x=>x==(n:Int)):=by
  intro l
  induction l with
  |nil=>intro k;rfl
  | cons x l ih =>
    intro k
    rw[List.zipIdx_cons,List.filterMap_cons,List.countP_cons]
    by_cases h:x=(n:Int)
    · simp only[if_pos h,RU,ih (k+1)];simp [h]
    · simp only[if_neg h,ih (k+1)];simp [h]
 unfold syms wK
 split
 · rfl
 · exact key l 0
def xw (l:List Int) (n:Nat) (v:Int):Option Int:=if ve l n≤v then(syms l n)[(v-ve l n).toNat]? else none
set_option maxHeartbeats 1000000 in
theorem Np (h:H) (l:List Int) (hl:l.length<100000) (n:Nat) (hn1:1≤n) (hn:n≤15) (v:Int) (hv0:0≤v) (hv:v<1000000):
 aR AP.A 72 [vu l,I n,I v] h=some (match xw l n v with|some y=>.bK [I y,.bool true]|none=>.bK [I 0,.bool false],h):=by
 have hp:=BB hn
 have hf:=Bn hl n
 have hc:=z4 l n
 have hsc:=zE l n
 have c1:¬((n:Int)<1):=by omega
 have c2:¬(15:Int)<n:=by omega
 have a1:cH (I n) 16=some n:=jY (by omega)
 have e1:wF l n=I (ve l n):=by rw[wF,if_pos (by omega)]
 have e2:wF l (16+n)=I (wK l n):=by rw[wF,if_neg (by omega),if_pos (by omega),show 16+n-16=n by omega]
 have e3:wF l (32+n)=y9 (ints (syms l n)):=by rw[wF,if_neg (by omega),if_neg (by omega),if_pos (by omega),show 32+n-32=n by omega]
 have g1:(m0 49 (wF l))[n]?=some (I (ve l n)):=by rw[fC (by omega),e1]
 have g2:(m0 49 (wF l))[16+n]?=some (I (wK l n)):=by rw[fC (by omega),e2]
 have g3:(m0 49 (wF l))[32+n]?=some (y9 (ints (syms l n))):=by rw[fC (by omega),e3]
 have hb:vu l=.aK (m0 49 (wF l)) 0:=rfl
 rw[hb]
 clear hb e1 e2 e3
 generalize m0 49 (wF l)=T at g1 g2 g3 ⊢
 by_cases k1:v<ve l n
 · have:xw l n v=none:=by rw[xw,if_neg (by omega)]
   rw[this]
   refine s7 (fn:=AP.f72) (e:=[(6,I 0),(7,.bool false)]) rfl rfl rfl ?_ rfl
   simp only[I]at *
   simp only[AP.f72,go_sem,RY c1,RY c2,a1,g1,R0 k1]
 have w1:IntKind.wrap .i64 (v-ve l n)=v-ve l n:=td (by omega) (by omega)
 by_cases k2:(wK l n:Int)≤v-ve l n
 · have:xw l n v=none:=by rw[xw,if_pos (by omega),R8 (by omega)]
   rw[this]
   refine s7 (fn:=AP.f72) (e:=[(6,I 0),(7,.bool false)]) rfl rfl rfl ?_ rfl
   simp only[I]at *
   simp only[AP.f72,go_sem,RY c1,RY c2,a1,g1,g2,RY k1,w1,R0 k2]
 · obtain⟨i,hi⟩:∃i:Nat,v-ve l n=i:=R2 (by omega)
   have hil:i<(syms l n).length:=by omega
   obtain⟨y,hy⟩:∃y,(syms l n)[i]?=some y:=⟨_,RW hil⟩
   have:xw l n v=some y:=by rw[xw,if_pos (by omega),hi,Int.toNat_natCast,hy]
   rw[this]
   have hne:ints (syms l n)≠[]:=by intro e;have:=Sn List.length e;simp at this;simp [this]at hil
   have hs:y9 (ints (syms l n))=.aV false (ints (syms l n)) 0 (ints (syms l n)).length 1:=by rw[y9,if_neg hne]
   rw[hs]at g3
   have a2:fE 1 (.aV false (ints (syms l n)) 0 (ints (syms l n)).length 1) (I i)=some (.aK (ints (syms l n)) i):=by
    simp [fE,jY (show i<(syms l n).length from hil)]
   have g4:=sq hy
   rw[hi]at w1 k2
   refine s7 (fn:=AP.f72) (e:=[(6,I y),(7,.bool true)]) rfl rfl rfl ?_ rfl
   simp only[I]at *
   simp only[AP.f72,go_sem,RY c1,RY c2,a1,g1,g2,RY k1,hi,w1,RY k2,g3,a2,g4]
attribute [local congr] sP
theorem yJ (a b:Nat):Int.tdiv (a:Int) (b:Int)=((a/b:Nat):Int):=by simp
theorem Dy (a b:Nat):Int.tmod (a:Int) (b:Int)=((a%b:Nat):Int):=by rw[Int.tmod_eq_emod_of_nonneg (by omega)];simp
theorem K6 {s:ByteArray} {i:Nat} (h:i<s.size):∃b:UInt8,s[i]?=some b:=⟨s[i],by simp [h]⟩
set_option maxHeartbeats 1000000 in
theorem JU (h:H) (r:Nat) (s:ByteArray) (p x i n:Nat) (hg:h.get r=some [.str s,I p]) (hf:h.floor≤r) (hp:p<8* s.size) (hs:s.size<1125899906842624) (hx:x<2^i) (hi:i<n) (hn:n≤16):
 aL (aR AP.A) bp AP.f58L0 [(0,.aD r 0),(6,I x),(32,I n),(33,I i)] h=some (.normal,[(0,.aD r 0),(6,I (x+wQ s p* 2^i:Nat)),(32,I n),(33,I (i+1:Nat))],h.set r [.str s,I (p+1:Nat)]):=by
 obtain⟨b,hb⟩:=K6 (s:=s) (i:=p/8) (by omega)
 have hb8:b.toNat<256:=b.toNat_lt
 have hbit:wQ s p=b.toNat/2^(p%8)%2:=by simp [wQ,hb]
 have t1:Int.tdiv (p:Int) 8=((p/8:Nat):Int):=yJ p 8
 have t2:Int.tmod (p:Int) 8=((p%8:Nat):Int):=Dy p 8
 have w1:IntKind.wrap .i64 ((p/8:Nat):Int)=((p/8:Nat):Int):=u4 (by omega)
 have a1:cH (I (p/8:Nat)) s.size=some (p/8):=jY (by omega)
 have s1:oP .shr .u8 (b.toNat:Int) ((p%8:Nat):Int)=some (.int .u8 ((b.toNat/2^(p%8):Nat):Int)):=OD (by omega)
 have hlt:b.toNat/2^(p%8)<256:=Nat.lt_of_le_of_lt (Nat.div_le_self _ _) hb8
 have n1:bits .and .u8 ((b.toNat/2^(p%8):Nat):Int) 1=((wQ s p:Nat):Int):=by
  have:=IH (b:=1) hlt (by omega)
  rw[Nat.and_one_is_mod]at this
  rw[hbit];exact this
 have hbl:=FI s p
 have w2:IntKind.wrap .i64 ((wQ s p:Nat):Int)=((wQ s p:Nat):Int):=u4 (by omega)
 have hpow:(2:Nat)^i≤2^16:=Sc (by omega) (by omega)
 have hmul:wQ s p* 2^i≤2^i:=by
  have:=uD (2^i) hbl;simpa using this
 have s2:oP .shl .i64 ((wQ s p:Nat):Int) (i:Int)=some (.int .i64 ((wQ s p* 2^i:Nat):Int)):=Bb (by omega) (by omega)
 have o1:bits .or .i64 (x:Int) ((wQ s p* 2^i:Nat):Int)=((x+wQ s p* 2^i:Nat):Int):=by
  rw[K3 (by omega) (by omega),Ka hx]
 have w3:IntKind.wrap .i64 ((p:Int)+1)=((p+1:Nat):Int):=u4 (n:=p+1) (by omega)
 have w4:IntKind.wrap .i64 ((i:Int)+1)=((i+1:Nat):Int):=u4 (n:=i+1) (by omega)
 generalize hB:wQ s p=B at *
 generalize hD:b.toNat/2^(p%8)=D at *
 generalize hE:p/8=E at *
 generalize hF:p%8=F at *
 generalize hO:x+B* 2^i=O at *
 generalize hM:B* 2^i=W at *
 simp only[I]at *
 simp [AP.f58L0,aL,au,aN,ai,ah,hg,ry,rz,t1,t2,w1,lJ,a1,hb,s1,n1,w2,s2,o1,w3,w4,hi,hf]
theorem F4 (r:Nat) (s:ByteArray) (p n:Nat) (hs:s.size<1125899906842624) (hp:p+n≤8* s.size) (hn:n≤16):∀(k i:Nat) (h:H),i+k=n→h.get r=some [.str s,I (p+i:Nat)]→h.floor≤r→
 ∃e',Lp AP.A [0,6,32,33] AP.f58L0 [(0,.aD r 0),(6,I (u0 s p i:Nat)),(32,I n),(33,I i)] h=some (.exit 1,e',h.set r [.str s,I (p+n:Nat)])∧look e' 6=I (u0 s p n:Nat)
 | 0, i, h, hk, hg, hf => by
   obtain rfl:i=n:=by omega
   refine⟨[(0,.aD r 0),(6,I (u0 s p i:Nat)),(32,I i),(33,I i),(34,.bool false)],sM ?_,rfl⟩
   rw[H.jm hg]
   simp [AP.f58L0,aL,au,ai,ah,I]
 | k + 1, i, h, hk, hg, hf => by
   have st:=JU h r s (p+i) (u0 s p i) i n hg hf (by omega) hs (wE s p i) (by omega) hn
   obtain⟨e',k1,k2⟩:=F4 r s p n hs hp hn k (i+1) (h.set r [.str s,I (p+i+1:Nat)]) (by omega) (by rw[H.de,if_pos rfl,hg];rfl) (by simpa using hf)
   rw[H.set_set]at k1
   exact⟨e',sN st k1,k2⟩
theorem Oh (h:H) (r:Nat) (s:ByteArray) (p n:Nat) (hg:h.get r=some [.str s,I p]) (hf:h.floor≤r) (hs:s.size<1125899906842624) (hp:p+n≤8* s.size) (hn:n≤16):
 aR AP.A 58 [.aD r 0,I n] h=some (.bK [I (u0 s p n:Nat),I 0],h.set r [.str s,I (p+n:Nat)]):=by
 obtain⟨e',k1,k2⟩:=F4 r s p n hs hp hn n 0 h (by omega) hg hf
 have l1:=pQ (k:=[6]) k1
 simp only[qM,rh,k2]at l1
 have c0:¬(n:Int)<0:=by omega
 have c1:¬(16:Int)<n:=by omega
 have w1:IntKind.wrap .i64 (8* (s.size:Int))=((8* s.size:Nat):Int):=u4 (n:=8* s.size) (by omega)
 have w2:IntKind.wrap .i64 (((8* s.size:Nat):Int)-p)=((8* s.size-p:Nat):Int):=by
  rw[←Int.ofNat_sub (by omega)];exact u4 (by omega)
 have c2:¬((8* s.size-p:Nat):Int)<n:=by omega
 refine s7 (fn:=AP.f58) (e:=[(4,I (u0 s p n:Nat)),(5,I 0)]) rfl rfl rfl ?_ rfl
 unfold AP.f58
 refine tU (e1:=[(0,.aD r 0),(1,I n)]) (h1:=h) rfl ?_
 refine tU (e1:=[(0,.aD r 0),(1,I n)]) (h1:=h) ?_ ?_
 · generalize hM:8* s.size-p=W at *
   generalize hM2:8* s.size=W2 at *
   simp only[I]at *
   simp [aL,au,aN,ai,ah,fp,oV,hg,iJ,w1,w2,c0,c1,c2]
 refine tU (e1:=[(0,.aD r 0),(1,I n),(6,I 0)]) (h1:=h) rfl ?_
 refine tU (e1:=[(6,I (u0 s p n:Nat))]) (h1:=h.set r [.str s,I (p+n:Nat)]) ?_ ?_
 · refine tU (e1:=[(0,.aD r 0),(6,I 0),(32,I n),(33,I 0)]) (h1:=h) rfl ?_
   exact l1
 exact tU (e1:=[(4,I (u0 s p n:Nat)),(5,I 0)]) (h1:=h.set r [.str s,I (p+n:Nat)]) rfl rfl
theorem Lq (h:H) (r:Nat) (s:ByteArray) (p n:Nat) (hg:h.get r=some [.str s,I p]) (hs:s.size<1125899906842624) (hp0:p≤8* s.size) (hp:8* s.size<p+n) (hn:n≤16):
 aR AP.A 58 [.aD r 0,I n] h=some (.bK [I 0,I 101],h):=by
 have c0:¬(n:Int)<0:=by omega
 have c1:¬(16:Int)<n:=by omega
 have w1:IntKind.wrap .i64 (8* (s.size:Int))=((8* s.size:Nat):Int):=u4 (n:=8* s.size) (by omega)
 have w2:IntKind.wrap .i64 (((8* s.size:Nat):Int)-p)=((8* s.size-p:Nat):Int):=by
  rw[←Int.ofNat_sub (by omega)];exact u4 (by omega)
 have c2:((8* s.size-p:Nat):Int)<n:=by omega
 refine s7 (fn:=AP.f58) (e:=[(4,I 0),(5,I 101)]) rfl rfl rfl ?_ rfl
 unfold AP.f58
 refine tU (e1:=[(0,.aD r 0),(1,I n)]) (h1:=h) rfl ?_
 refine tV ?_
 generalize hM:8* s.size-p=W at *
 generalize hM2:8* s.size=W2 at *
 simp only[I]at *
 simp [aL,au,aN,ai,ah,fp,oV,hg,iJ,w1,w2,c0,c1,c2]
attribute [local congr] sP
theorem vT {A:a8} {f:Nat} {fn:eQ} {args:List AV} {h h2:H} {e:Env} {vs:List AV} (hf:A f=some fn) (hnp:args.length=fn.np) (hp:fn.pure=false)
 (hx:aL (aR A) bp fn.body (params 0 args) h=some (.normal,e,h2)) (hres:cn e h2 fn.res=some vs):aR A f args h=some (c9 vs,h2):=by
 refine j4 hf ?_
 unfold eN
 rw[if_pos hnp]
 simp [hp,hx,fin,hres]
def yi (l:List Nat):List AV:=l.map fun (b:Nat)=>AV.int .u8 (b:Int)
@[simp] theorem yQ (l : List Nat) : (yi l).length = l.length := by simp [yi]
structure SS where
 at_:Nat
 out:List Nat
 e:Int
structure SC where
 s:Nat
 r:Nat
 text:ByteArray
 most:Int
structure St (c:SC) (S:SS) (h:H) (ov:AV):Prop where
 gs:h.get c.s=some [.aD c.r 0,ov,I c.most,I S.e]
 gr:h.get c.r=some [.str c.text,I S.at_]
 own:mZ h ov (yi S.out)
 sr:c.s≠c.r
 fs:h.floor≤c.s
 fr:h.floor≤c.r
 os:ov.id?≠some c.s
 or:ov.id?≠some c.r
 nx:h.floor≤h.next
 sz:c.text.size<1125899906842624
 yy:S.at_≤8* c.text.size
 ol:(S.out.length:Int)≤c.most
 ml:c.most≤900000
structure Fr (c:SC) (h:H) (ov:AV) (h':H) (ov':AV):Prop where
 fl:h'.floor=h.floor
 nx:h.next≤h'.next
 GZ:∀id,id<h.next→id≠c.s→id≠c.r→ov.id?≠some id→h'.get id=h.get id
 nb:∀i,ov'.id?=some i→ov.id?=some i∨h.next≤i
theorem Fr.refl (c:SC) (h:H) (ov:AV):Fr c h ov h ov:=⟨rfl,uy _,fun _ _ _ _ _=>rfl,fun _ q=>.inl q⟩
theorem Fr.trans {c:SC} {h1 h2 h3:H} {o1 o2 o3:AV} (a:Fr c h1 o1 h2 o2) (b:Fr c h2 o2 h3 o3):Fr c h1 o1 h3 o3:=by
 refine⟨b.fl.trans a.fl,uS a.nx b.nx,fun id h4 h5 h6 h7=> ?_,fun i hi=> ?_⟩
 · rw[b.GZ id (Nat.lt_of_lt_of_le h4 a.nx) h5 h6 (fun q=> ?_),a.GZ id h4 h5 h6 h7]
   rcases a.nb id q with q|q
   · exact h7 q
   · omega
 · rcases b.nb i hi with q|q
   · exact a.nb i q
   · exact .inr (uS a.nx q)
theorem St.Qr {c:SC} {S:SS} {h:H} {ov:AV} (st:St c S h ov) (e:Int):St c {S with e:=e} (h.set c.s [.aD c.r 0,ov,I c.most,I e]) ov∧Fr c h ov (h.set c.s [.aD c.r 0,ov,I c.most,I e]) ov:=by
 refine⟨⟨by rw[H.de,if_pos rfl,st.gs];rfl,by rw[H.de,if_neg (Ne.symm st.sr)];exact st.gr,st.own.mono (by simp) fun i hi=> ?_,st.sr,by simpa using st.fs,by simpa using st.fr,st.os,st.or,by simpa using st.nx,st.sz,st.yy,st.ol,st.ml⟩,⟨by simp,by simp,fun id h1 h2 h3 h4=>by rw[H.de,if_neg h2],fun _ q=>.inl q⟩⟩
 rw[H.de,if_neg];intro (e:i=c.s);exact st.os (e ▸ hi)
theorem St.OB {c:SC} {S:SS} {h:H} {ov:AV} (st:St c S h ov) {p:Nat} (hp:p≤8* c.text.size):St c {S with at_:=p} (h.set c.r [.str c.text,I p]) ov∧Fr c h ov (h.set c.r [.str c.text,I p]) ov:=by
 refine⟨⟨by rw[H.de,if_neg st.sr];exact st.gs,by rw[H.de,if_pos rfl,st.gr];rfl,st.own.mono (by simp) fun i hi=> ?_,st.sr,by simpa using st.fs,by simpa using st.fr,st.os,st.or,by simpa using st.nx,st.sz,hp,st.ol,st.ml⟩,⟨by simp,by simp,fun id h1 h2 h3 h4=>by rw[H.de,if_neg h3],fun _ q=>.inl q⟩⟩
 rw[H.de,if_neg];intro (e:i=c.r);exact st.or (e ▸ hi)
def vz (k:Int) (S:SS):SS:=if S.e=0 then {S with e:=k}else S
theorem xg {c:SC} {S:SS} {h:H} {ov:AV} (st:St c S h ov) (k:Int):∃h',aR AP.A 45 [.aD c.s 0,I k] h=some (.bK [],h')∧St c (vz k S) h' ov∧Fr c h ov h' ov:=by
 have gs:=st.gs
 have fs:=st.fs
 by_cases he:S.e=0
 · refine⟨_, ?_,by rw[vz,if_pos he];exact(st.Qr k).1,(st.Qr k).2⟩
   refine vT (fn:=AP.f45) (e:=[]) rfl rfl rfl ?_ rfl
   simp only[I]at *
   simp [AP.f45,params,aL,au,ai,ah,gs,he,fs]
 · refine⟨h, ?_,by rw[vz,if_neg he];exact st,Fr.refl _ _ _⟩
   refine vT (fn:=AP.f45) (e:=[]) rfl rfl rfl ?_ rfl
   simp only[I]at *
   simp [AP.f45,params,aL,au,ai,ah,gs,he,fs]
def u5 (c:SC) (n:Nat) (S:SS):Nat×SS:=if S.at_+n≤8* c.text.size then(u0 c.text S.at_ n,{S with at_:=S.at_+n})else(0,vz 700 S)
theorem JT {c:SC} {S:SS} {h:H} {ov:AV} (st:St c S h ov) {n:Nat} (hn:n≤16):∃h',aR AP.A 38 [.aD c.s 0,I n] h=some (I ((u5 c n S).1:Nat),h')∧St c (u5 c n S).2 h' ov∧Fr c h ov h' ov:=by
 have gs:=st.gs
 by_cases hp:S.at_+n≤8* c.text.size
 · have g:=Oh h c.r c.text S.at_ n st.gr st.fr st.sz hp hn
   refine⟨_, ?_,by rw[u5,if_pos hp];exact(st.OB hp).1,(st.OB hp).2⟩
   rw[u5,if_pos hp]
   refine s7 (fn:=AP.f38) (e:=[(4,I (u0 c.text S.at_ n:Nat))]) rfl rfl rfl ?_ rfl
   simp only[I]at *
   simp [AP.f38,params,aL,au,ai,ah,gs,aX,g]
 · have g:=Lq h c.r c.text S.at_ n st.gr st.sz st.yy (by omega) hn
   obtain⟨h',k1,k2,k3⟩:=xg st 700
   refine⟨h', ?_,by rw[u5,if_neg hp];exact k2,k3⟩
   rw[u5,if_neg hp]
   refine s7 (fn:=AP.f38) (e:=[(4,I 0)]) rfl rfl rfl ?_ rfl
   simp only[I]at *
   simp [AP.f38,params,aL,au,ai,ah,gs,aX,g,k1]
def Dk (c:SC) (b:Nat) (S:SS):SS:=
 let T:=if c.most≤S.out.length then vz 701 S else S
 if T.e=0 then {T with out:=T.out++[b]}else T
theorem mZ.len {h:H} {v:AV} {cs:List AV} (o:mZ h v cs):iJ false v=some (I cs.length):=by
 rcases o with ⟨rfl,rfl⟩|⟨id,rfl,_⟩<;>rfl
theorem Kk {c : SC} {S : SS} {h : H} {ov : AV} (st : St c S h ov) {b : Nat} : ∃ h' ov', aR AP.A 59 [.aD c.s 0, .int .u8 b] h = some (.bK [], h') ∧ St c (Dk c b S) h' ov' ∧ Fr c h ov h' ov' := by
 have gs0:=st.gs
 have hol:=st.ol
 have hml:=st.ml
 have ln:=st.own.len
 rw[yQ]at ln
 by_cases hm:c.most≤S.out.length
 · obtain⟨h1,k1,k2,k3⟩:=xg st 701
   have he:(vz 701 S).e≠0:=by unfold vz;split<;>simp_all
   have hp:Dk c b S=vz 701 S:=by unfold Dk;simp only[if_pos hm,if_neg he]
   have gs1:=k2.gs
   refine⟨h1,ov, ?_,by rw[hp];exact k2,k3⟩
   refine vT (fn:=AP.f59) (e:=[]) rfl rfl rfl ?_ rfl
   simp only[I]at *
   simp [AP.f59,params,aL,au,aN,ai,ah,gs0,ln,hm,aX,k1,gs1,he]
 by_cases he:S.e=0
 · have hp:Dk c b S={S with out:=S.out++[b]}:=by unfold Dk;simp only[if_neg hm,if_pos he]
   have hsl:c.s<h.next:=h.lt _ _ st.gs
   have hrl:c.r<h.next:=h.lt _ _ st.gr
   obtain⟨h1,eh1⟩:∃g,g=h.alloc [.int .u8 b]:=⟨_,rfl⟩
   have hlo1:∀i,i≠h.next→h1.get i=h.get i:=fun i q=>by rw[eh1,H.aW,if_neg q]
   have hfl1:h1.floor=h.floor:=by rw[eh1];simp
   have hnx1:h1.next=h.next+1:=by rw[eh1];simp
   have ho1:mZ h1 ov (yi S.out):=st.own.mono hfl1 fun i hi=>hlo1 i (by have:=st.own.lt hi;omega)
   have hnxf:=st.nx
   obtain⟨v',h2,q1,q2,q3,q4,q5,q6⟩:=ho1.app (by omega) (z:=1) (.int .u8 b) rfl (by simp [roomy];omega)
   have hal2:h1.get h.next=some [.int .u8 b]:=by rw[eh1,H.aW,if_pos rfl]
   have gs1:h1.get c.s=some [.aD c.r 0,ov,I c.most,I S.e]:=by rw[hlo1 _ (by omega)];exact st.gs
   have gs2:h2.get c.s=some [.aD c.r 0,ov,I c.most,I S.e]:=by rw[q5 _ st.os (by omega)];exact gs1
   have gr2:h2.get c.r=some [.str c.text,I S.at_]:=by rw[q5 _ st.or (by omega),hlo1 _ (by omega)];exact st.gr
   have fs2:h2.floor≤c.s:=by have:=st.fs;omega
   have hv':v'.cells=[v']∧v'.sc=true:=by
    rcases q2 with ⟨rfl,_⟩|⟨id,rfl,_⟩<;>exact⟨rfl,rfl⟩
   have hby:yi (S.out++[b])=yi S.out++[.int .u8 b]:=by simp [yi]
   refine⟨h2.set c.s [.aD c.r 0,v',I c.most,I S.e],v', ?_, ?_, ?_⟩
   · refine vT (fn:=AP.f59) (e:=[]) rfl rfl rfl ?_ rfl
     simp only[I]at *
     simp [AP.f59,params,aL,au,aN,ai,ah,bn,aY,dy,dI,kg,aS,gs0,ln,hm,he,←eh1,hal2,gs1,q1,gs2,fs2,hv'.1,hv'.2]
   · rw[hp]
     refine⟨by rw[H.de,if_pos rfl,gs2];rfl,by rw[H.de,if_neg (Ne.symm st.sr)];exact gr2, ?_,st.sr,by simpa using fs2,by have:=st.fr;simp;omega, ?_, ?_,by simp;omega,st.sz,st.yy,by simp;omega,st.ml⟩
     · rw[hby]
       refine q2.mono (by simp) fun i hi=> ?_
       rw[q6]at hi;cases hi
       rw[H.de,if_neg (by omega)]
     · rw[q6];intro e;have:=uh e;omega
     · rw[q6];intro e;have:=uh e;omega
   · refine⟨by simp;omega,by simp;omega,fun id a1 a2 a3 a4=> ?_,fun i hi=> ?_⟩
     · rw[H.de,if_neg a2,q5 id a4 (by omega),hlo1 id (by omega)]
     · rw[q6]at hi;cases hi;right;omega
 · have hp:Dk c b S=S:=by unfold Dk;simp only[if_neg hm,if_neg he]
   refine⟨h,ov, ?_,by rw[hp];exact st,Fr.refl _ _ _⟩
   refine vT (fn:=AP.f59) (e:=[]) rfl rfl rfl ?_ rfl
   simp only[I]at *
   simp [AP.f59,params,aL,au,aN,ai,ah,gs0,ln,hm,he]
theorem QI (h:H) (s:ByteArray):aR AP.A 14 [.str s] h=some (.aD h.next 0,h.alloc [.str s,I 0]):=by
 refine s7 (fn:=AP.f14) (e:=[(2,.aD h.next 0)]) rfl rfl rfl ?_ rfl
 have b:aY [(4,.agg [.str s,I 0]),(3,.str s),(0,.str s)] (.box 2 (.t 4))=some ([.str s,I 0],fun i=>.aD i 0):=rfl
 have f:dI [.str ⟨#[]⟩,.int .i64 0] [(0,1,.str s)]=some [.str s,I 0]:=rfl
 simp only[I]at *
 simp only[AP.f14,go_sem,R3,SA,f,b]
theorem KY (h:H) (r:Nat) (s:ByteArray) (p:Nat) (hg:h.get r=some [.str s,I p]) (hf:h.floor≤r) (hs:s.size<1125899906842624) (hp:p≤8* s.size):
 aR AP.A 16 [.aD r 0] h=some (I 0,h.set r [.str s,I ((p+7)/8* 8:Nat)]):=by
 refine s7 (fn:=AP.f16) (e:=[(2,I 0)]) rfl rfl rfl ?_ rfl
 have w1:IntKind.wrap .i64 ((p:Int)+8)=((p+8:Nat):Int):=u4 (n:=p+8) (by omega)
 have w2:IntKind.wrap .i64 (((p+8:Nat):Int)-1)=((p+7:Nat):Int):=by
  rw[show((p+8:Nat):Int)-1=((p+7:Nat):Int)by omega];exact u4 (by omega)
 have w3:IntKind.wrap .i64 (((p+7:Nat):Int).tdiv 8)=(((p+7)/8:Nat):Int):=by
  rw[show(8:Int)=((8:Nat):Int)from rfl,yJ];exact u4 (by omega)
 have w4:IntKind.wrap .i64 ((((p+7)/8:Nat):Int)* 8)=(((p+7)/8* 8:Nat):Int):=by
  rw[show(((p+7)/8:Nat):Int)* 8=(((p+7)/8* 8:Nat):Int)by omega];exact u4 (by omega)
 have st:∀v,tG h r 1 1 [.int .i64 v] (some [.str s,.int .i64 p])=some (h.set r [.str s,.int .i64 v]):=fun v=>tX hf (by simp) rfl
 have q:bj .quo (.int .i64 ((p+7:Nat):Int)) (.int .i64 8)=some (.int .i64 (((p+7)/8:Nat):Int)):=by rw[ry _ _ _ (by omega),w3]
 simp only[I]at *
 simp only[AP.f16,go_sem,hg,w1,w2,q,w4,st]
theorem Qz (h:H) (r:Nat) (s:ByteArray) (p:Nat) (hg:h.get r=some [.str s,I p]):aR AP.A 17 [.aD r 0] h=some (I p,h):=by
 refine s7 (fn:=AP.f17) (e:=[(2,I p)]) rfl rfl rfl ?_ rfl
 simp only[I]at *
 simp only[AP.f17,go_sem,hg]
theorem yC {c:SC} {S:SS} {h:H} {ov:AV} (st:St c S h ov) (n:Nat) (m:Int) (hm:m=n) (hn:n≤16):∃h',aR AP.A 38 [.aD c.s 0,I m] h=some (I ((u5 c n S).1:Nat),h')∧St c (u5 c n S).2 h' ov∧Fr c h ov h' ov:=by
 subst hm;exact JT st hn
theorem Iw {c:SC} {S:SS} {h:H} {ov:AV} (st:St c S h ov) {n least:Nat} (hn:n≤16) (hl:least<100000):∃h',aR AP.A 73 [.aD c.s 0,I least,I n,I 0] h=some (I ((least+(u5 c n S).1:Nat)),h')∧St c (u5 c n S).2 h' ov∧Fr c h ov h' ov:=by
 obtain⟨h',k1,k2,k3⟩:=JT st hn
 refine⟨h', ?_,k2,k3⟩
 have hb:(u5 c n S).1<65536:=by
  unfold u5;split
  · have:=wE c.text S.at_ n
    have:=Sc (show 0<2 by omega) hn
    simp at *;omega
  · simp
 have w:IntKind.wrap .i64 ((least:Int)+((u5 c n S).1:Nat))=((least+(u5 c n S).1:Nat):Int):=by
  rw[show(least:Int)+((u5 c n S).1:Nat)=((least+(u5 c n S).1:Nat):Int)by omega];exact u4 (by omega)
 refine s7 (fn:=AP.f73) (e:=[(8,I ((least+(u5 c n S).1:Nat)))]) rfl rfl rfl ?_ rfl
 simp only[I]at *
 simp only[AP.f73,go_sem,k1,w]
theorem EF {c:SC} {S:SS} {h:H} {ov:AV} (st:St c S h ov) (he:S.e=0):∃h' S',aR AP.A 73 [.aD c.s 0,I 0,I 0,I 600] h=some (I 0,h')∧St c S' h' ov∧Fr c h ov h' ov∧S'.e=700:=by
 obtain⟨h1,k1,k2,k3⟩:=xg st 700
 obtain⟨h',l1,l2,l3⟩:=JT k2 (n:=0) (by omega)
 have hS:vz 700 S={S with e:=700}:=by rw[vz,if_pos he]
 have hle:=st.yy
 have hg:u5 c 0 (vz 700 S)=(0,vz 700 S):=by
  rw[u5,if_pos (by rw[hS];exact hle)];rfl
 rw[hg]at l1 l2
 have l1':aR AP.A 38 [.aD c.s 0,I 0] h1=some (I 0,h'):=l1
 clear l1
 refine⟨h',_, ?_,l2,k3.trans l3,by rw[hS]⟩
 have w:IntKind.wrap .i64 (0+0)=0:=td (by omega) (by omega)
 refine s7 (fn:=AP.f73) (e:=[(8,I 0)]) rfl rfl rfl ?_ rfl
 simp only[I]at *
 simp only[AP.f73,go_sem,k1,l1',w]
def wY (t:ByteArray) (l:List Int):Nat→Nat→Nat→Nat→Option (Int×Nat)
 |0,_,_,_=>none
 |k+1,n,v,p=>if p+1≤8* t.size then(match xw l n ((v* 2+u0 t p 1:Nat):Int)with|some y=>some (y,p+1)|none=>wY t l k (n+1) (v* 2+u0 t p 1) (p+1))else none
theorem GP {c:SC} {S:SS} {h:H} {ov:AV} (st:St c S h ov) (l:List Int) (v n:Nat) (hs:n=16∨(n≤15∧S.e≠0)):
 ∃e',Lp AP.A [0,1,5,6] AP.f60L0 [(0,.aD c.s 0),(1,vu l),(5,I v),(6,I n)] h=some (.exit 0,e',h)∧look e' 0=.aD c.s 0:=by
 have gs:=st.gs
 refine⟨[(0,.aD c.s 0),(1,vu l),(5,I v),(6,I n),(17,.bool false)],sM ?_,rfl⟩
 rcases hs with hn|⟨hn,he⟩
 · have c1:¬(n:Int)≤15:=by omega
   simp only[I]at *
   simp only[AP.f60L0,go_sem,RY c1]
 · have c1:(n:Int)≤15:=by omega
   have c2:(S.e==0)=false:=tK he
   simp only[I]at *
   simp only[AP.f60L0,go_sem,R0 c1,gs,c2]
theorem GO {c : SC} (l : List Int) (hl : l.length < 100000) : ∀ (k n v : Nat) (S : SS) (h : H) (ov : AV), n + k = 16 → 1 ≤ n → v < 2 ^ (n - 1) → St c S h ov → S.e = 0 →
 ∃ h' S', St c S' h' ov ∧ Fr c h ov h' ov ∧ match wY c.text l k n v S.at_ with
   |some (y,p)=>S'={S with at_:=p}∧∃e',Lp AP.A [0,1,5,6] AP.f60L0 [(0,.aD c.s 0),(1,vu l),(5,I v),(6,I n)] h=some (.ret,e',h')∧look e' 4=I y
   |none=>(S'.e=0∨S'.e=700)∧∃e',Lp AP.A [0,1,5,6] AP.f60L0 [(0,.aD c.s 0),(1,vu l),(5,I v),(6,I n)] h=some (.exit 0,e',h')∧look e' 0=.aD c.s 0
 | 0, n, v, S, h, ov, hk, hn, hv, st, he => by
   obtain⟨e',q1,q2⟩:=GP st l v n (.inl (by omega))
   exact⟨h,S,st,Fr.refl _ _ _,by simp only[wY];exact⟨.inl he,e',q1,q2⟩⟩
 | k + 1, n, v, S, h, ov, hk, hn, hv, st, he => by
   have gs:=st.gs
   obtain⟨h1,k1,k2,k3⟩:=yC st 1 1 rfl (by omega)
   obtain⟨x,hx⟩:∃x,x=(u5 c 1 S).1:=⟨_,rfl⟩
   obtain⟨S1,hS1⟩:∃x,x=(u5 c 1 S).2:=⟨_,rfl⟩
   rw[←hx]at k1;rw[←hS1]at k2
   have hp:2^n≤2^15:=Sc (by omega) (by omega)
   have h2:2^(n-1+1)=2^(n-1)* 2:=Nat.pow_succ 2 (n-1)
   rw[show n-1+1=n by omega]at h2
   obtain⟨P,hP⟩:∃P:Nat,P=2^(n-1):=⟨_,rfl⟩
   rw[←hP]at h2 hv
   obtain⟨Q,hQ⟩:∃Q:Nat,Q=2^n:=⟨_,rfl⟩
   rw[←hQ]at h2 hp
   simp only[Nat.reducePow]at hp
   have hx1:x<2:=by
    rw[hx];unfold u5;split
    · have:=wE c.text S.at_ 1;simpa using this
    · simp
   have hv':v* 2+x<Q:=by omega
   have w1:IntKind.wrap .i64 ((v:Int)* 2)=((v* 2:Nat):Int):=by
    rw[show(v:Int)* 2=((v* 2:Nat):Int)by omega];exact u4 (by omega)
   have w2:IntKind.wrap .i64 (((v* 2:Nat):Int)+(x:Int))=((v* 2+x:Nat):Int):=by
    rw[show((v* 2:Nat):Int)+(x:Int)=((v* 2+x:Nat):Int)by omega];exact u4 (by omega)
   have w3:IntKind.wrap .i64 ((n:Int)+1)=((n+1:Nat):Int):=u4 (n:=n+1) (by omega)
   have c1:(n:Int)≤15:=by omega
   have fc:=Np h1 l hl n hn (by omega) ((v* 2+x:Nat):Int) (by omega) (by omega)
   have gs1:=k2.gs
   have step:(xw l n ((v* 2+x:Nat):Int)=none∨S1.e≠0)→aL (aR AP.A) bp AP.f60L0 (ay [(0,.aD c.s 0),(1,vu l),(5,I v),(6,I n)] [0,1,5,6]) h=some (.normal,[(0,.aD c.s 0),(1,vu l),(5,I (v* 2+x:Nat)),(6,I (n+1:Nat))],h1):=by
    intro hc
    rcases hc with hc|hc
    · rw[hc]at fc
      simp only[I]at *
      simp only[AP.f60L0,go_sem,R0 c1,gs,he,k1,w1,w2,fc,w3]
    · have c2:(S1.e==0)=false:=tK hc
      cases hf:xw l n ((v* 2+x:Nat):Int)with
      | none =>
        rw[hf]at fc
        simp only[I]at *
        simp only[AP.f60L0,go_sem,R0 c1,gs,he,k1,w1,w2,fc,w3]
      | some y =>
        rw[hf]at fc
        simp only[I]at *
        simp only[AP.f60L0,go_sem,R0 c1,gs,he,k1,w1,w2,fc,w3,gs1,c2]
   by_cases hat:S.at_+1≤8* c.text.size
   · have eg:u5 c 1 S=(u0 c.text S.at_ 1,{S with at_:=S.at_+1}):=by rw[u5,if_pos hat]
     rw[eg]at hx hS1
     dsimp only at hx hS1
     subst hx hS1
     rw[wY,if_pos hat]
     cases hf:xw l n ((v* 2+u0 c.text S.at_ 1:Nat):Int)with
     | none =>
       obtain⟨h',S',q1,q2,q3⟩:=GO l hl k (n+1) (v* 2+u0 c.text S.at_ 1) _ h1 ov (by omega) (by omega) (by rw[Nat.add_sub_cancel,←hQ];exact hv') k2 he
       refine⟨h',S',q1,k3.trans q2, ?_⟩
       dsimp only at q3 ⊢
       have sp:=step (.inl hf)
       cases hy:wY c.text l k (n+1) (v* 2+u0 c.text S.at_ 1) (S.at_+1)with
       | none =>
         rw[hy]at q3
         obtain⟨q3,e',q4,q5⟩:=q3
         exact⟨q3,e',sN sp q4,q5⟩
       | some y =>
         rw[hy]at q3
         obtain⟨q3,e',q4,q5⟩:=q3
         exact⟨q3,e',sN sp q4,q5⟩
     | some y =>
       refine⟨h1,_,k2,k3,rfl,[(4,I y)],tq ?_,rfl⟩
       rw[hf]at fc
       simp only[I]at *
       simp only[AP.f60L0,go_sem,R0 c1,gs,he,k1,w1,w2,fc,w3,gs1]
   · have eg:u5 c 1 S=(0,{S with e:=700}):=by rw[u5,if_neg hat,vz,if_pos he]
     rw[eg]at hx hS1
     dsimp only at hx hS1
     subst hx hS1
     rw[wY,if_neg hat]
     have hst:n+1=16∨(n+1≤15∧(700:Int)≠0):=by omega
     obtain⟨e',q1,q2⟩:=GP k2 l (v* 2+0) (n+1) hst
     exact⟨h1,_,k2,k3,.inr rfl,e',sN (step (.inr (by simp))) q1,q2⟩
theorem Dw {c:SC} {S:SS} {h:H} {ov:AV} (l:List Int) (hl:l.length<100000) (st:St c S h ov) (he:S.e=0):
 ∃ h' S' y, aR AP.A 60 [.aD c.s 0, vu l] h = some (I y, h') ∧ St c S' h' ov ∧ Fr c h ov h' ov ∧ match wY c.text l 15 1 0 S.at_ with
   |some (z,p)=>S'={S with at_:=p}∧y=z
   |none=>S'.e=700∧y=256:=by
 obtain⟨h1,S1,q1,q2,q3⟩:=GO l hl 15 1 0 S h ov (by omega) (by omega) (by simp) st he
 cases hy:wY c.text l 15 1 0 S.at_ with
 | some yp =>
   rw[hy]at q3
   obtain⟨q3,e',q4,q5⟩:=q3
   refine⟨h1,S1,yp.1, ?_,q1,q2,q3,rfl⟩
   refine s7 (fn:=AP.f60) (e:=e') (vs:=[I yp.1]) rfl rfl rfl ?_ (by simp only[AP.f60,cn,mR,q5];rfl)
   have q6:Lp AP.A [0,1,5,6] AP.f60L0 [(0,.aD c.s 0),(1,vu l),(5,I 0),(6,I 1)] h=some (.ret,e',h1):=q4
   clear q4
   simp only[I]at *
   simp only[AP.f60,go_sem,rK,q6]
 | none =>
   rw[hy]at q3
   obtain⟨q3,e',q4,q5⟩:=q3
   obtain⟨h2,r1,r2,r3⟩:=xg q1 700
   refine⟨h2,vz 700 S1,256, ?_,r2,q2.trans r3, ?_,rfl⟩
   · refine s7 (fn:=AP.f60) (e:=[(4,I 256)]) rfl rfl rfl ?_ rfl
     have q6:Lp AP.A [0,1,5,6] AP.f60L0 [(0,.aD c.s 0),(1,vu l),(5,I 0),(6,I 1)] h=some (.exit 0,e',h1):=q4
     clear q4
     simp only[I]at *
     simp only[AP.f60,go_sem,rK,q6,q5,r1]
   · rcases q3 with q3|q3<;>simp [vz,q3]
def lenOf (y:Nat):Option (Nat×Nat):=
 if y≤256∨285<y then none else if y=285 then some (258,0)else if y<265 then some (y-254,0)else some (3+(4+(y-257)%4)* 2^((y-257)/4-1),(y-257)/4-1)
def vw (y:Nat):Option (Nat×Nat):=
 if 30≤y then none else if y<4 then some (1+y,0)else some (1+(2+y%2)* 2^(y/2-1),y/2-1)
theorem C6 {y a b:Nat} (h:lenOf y=some (a,b)):a≤258∧b≤5∧0<a:=by
 have key:∀y<286,∀a b,lenOf y=some (a,b)→a≤258∧b≤5∧0<a:=by
  intro y hy a b h
  have:((lenOf y).map fun p=>decide (p.1≤258∧p.2≤5∧0<p.1))=(lenOf y).map fun _=>true:=by
   clear h
   revert y
   decide+kernel
  rw[h]at this
  simpa using this
 by_cases hy:y<286
 · exact key y hy a b h
 · rw[lenOf,if_pos (by omega)]at h;cases h
theorem Bl {y a b:Nat} (h:vw y=some (a,b)):a≤24577∧b≤13∧0<a:=by
 have key:∀y<30,∀a b,vw y=some (a,b)→a≤24577∧b≤13∧0<a:=by
  intro y hy a b h
  have:((vw y).map fun p=>decide (p.1≤24577∧p.2≤13∧0<p.1))=(vw y).map fun _=>true:=by
   clear h
   revert y
   decide+kernel
  rw[h]at this
  simpa using this
 by_cases hy:y<30
 · exact key y hy a b h
 · rw[vw,if_pos (by omega)]at h;cases h
def DC (o:Option (Nat×Nat)):AV:=match o with
 |some p=>.bK [I p.1,I p.2,I 0]
 |none=>.bK [I 0,I 0,I 600]
theorem H5 (h:H) (y:Nat) (hy:y<1000000):aR AP.A 74 [I y] h=some (DC (lenOf y),h):=by
 have d1:decide ((y:Int)≤256)=decide (y≤256):=by by_cases q:y≤256<;>simp [q]<;>omega
 have w1:IntKind.wrap .i64 ((y:Int)-256)=(y:Int)-256:=td (by omega) (by omega)
 have w2:IntKind.wrap .i64 ((y:Int)-256-1)=(y:Int)-257:=by rw[show(y:Int)-256-1=(y:Int)-257 by omega];exact td (by omega) (by omega)
 by_cases c1:y≤256
 · rw[lenOf,if_pos (.inl c1)]
   refine tE (fn:=AP.f74) (h2:=h.dH) (e:=[(2,I 0),(3,I 0),(4,I 600)]) rfl rfl rfl ?_ rfl rfl
   have c1':(y:Int)≤256:=by omega
   simp only[I]at *
   simp only[AP.f74,go_sem,w1,w2,R0 c1']
 have c1':¬(y:Int)≤256:=by omega
 by_cases c2:285<y
 · rw[lenOf,if_pos (.inr c2)]
   refine tE (fn:=AP.f74) (h2:=h.dH) (e:=[(2,I 0),(3,I 0),(4,I 600)]) rfl rfl rfl ?_ rfl rfl
   have c2':(285:Int)<y:=by omega
   simp only[I]at *
   simp only[AP.f74,go_sem,w1,w2,RY c1',R0 c2']
 have c2':¬(285:Int)<y:=by omega
 rw[lenOf,if_neg (by omega)]
 by_cases c3:y=285
 · rw[if_pos c3]
   refine tE (fn:=AP.f74) (h2:=h.dH) (e:=[(2,I 258),(3,I 0),(4,I 0)]) rfl rfl rfl ?_ rfl rfl
   have c3':((y:Int)==285)=true:=tL (by omega)
   simp only[I]at *
   simp only[AP.f74,go_sem,w1,w2,RY c1',RY c2',c3']
 rw[if_neg c3]
 have c3':((y:Int)==285)=false:=tK (by omega)
 by_cases c4:y<265
 · rw[if_pos c4]
   refine tE (fn:=AP.f74) (h2:=h.dH) (e:=[(2,I (y-254:Nat)),(3,I 0),(4,I 0)]) rfl rfl rfl ?_ rfl rfl
   have c4':(y:Int)-257<8:=by omega
   have w3:IntKind.wrap .i64 (3+((y:Int)-257))=((y-254:Nat):Int):=by rw[show 3+((y:Int)-257)=((y-254:Nat):Int)by omega];exact u4 (by omega)
   simp only[I]at *
   simp only[AP.f74,go_sem,w1,w2,RY c1',RY c2',c3',R0 c4',w3]
 rw[if_neg c4]
 have c4':¬(y:Int)-257<8:=by omega
 obtain⟨k,hk⟩:∃k:Nat,(y:Int)-257=k:=R2 (by omega)
 have hk':y-257=k:=by omega
 rw[hk]at w2 c4'
 rw[hk']
 have q1:bj .quo (.int .i64 (k:Int)) (.int .i64 4)=some (.int .i64 ((k/4:Nat):Int)):=by
  rw[ry _ _ _ (by omega),show(4:Int)=((4:Nat):Int)from rfl,yJ,u4 (by omega)]
 have q2:bj .rem (.int .i64 (k:Int)) (.int .i64 4)=some (.int .i64 ((k%4:Nat):Int)):=by
  rw[rz _ _ _ (by omega),show(4:Int)=((4:Nat):Int)from rfl,Dy]
 have w3:IntKind.wrap .i64 (((k/4:Nat):Int)-1)=((k/4-1:Nat):Int):=by rw[show((k/4:Nat):Int)-1=((k/4-1:Nat):Int)by omega];exact u4 (by omega)
 have w4:IntKind.wrap .i64 (4+((k%4:Nat):Int))=((4+k%4:Nat):Int):=by rw[show 4+((k%4:Nat):Int)=((4+k%4:Nat):Int)by omega];exact u4 (by omega)
 have hp:2^(k/4-1)≤2^5:=Sc (by omega) (by omega)
 have hm:(4+k%4)* 2^(k/4-1)≤7* 2^5:=Nat.mul_le_mul (by omega) hp
 have q3:oP .shl .i64 ((4+k%4:Nat):Int) ((k/4-1:Nat):Int)=some (.int .i64 (((4+k%4)* 2^(k/4-1):Nat):Int)):=Bb (by omega) (by omega)
 generalize (4+k%4)* 2^(k/4-1)=P at *
 have w5:IntKind.wrap .i64 (3+(P:Int))=((3+P:Nat):Int):=by rw[show 3+(P:Int)=((3+P:Nat):Int)by omega];exact u4 (by omega)
 refine tE (fn:=AP.f74) (h2:=h.dH) (e:=[(2,I (3+P:Nat)),(3,I (k/4-1:Nat)),(4,I 0)]) rfl rfl rfl ?_ rfl rfl
 simp only[I]at *
 simp only[AP.f74,go_sem,w1,w2,RY c1',RY c2',c3',RY c4',q1,q2,w3,w4,q3,w5]
theorem FW (h:H) (y:Nat) (hy:y<1000000):aR AP.A 75 [I y] h=some (DC (vw y),h):=by
 have c0:¬(y:Int)<0:=by omega
 by_cases c1:30≤y
 · rw[vw,if_pos c1]
   refine tE (fn:=AP.f75) (h2:=h.dH) (e:=[(2,I 0),(3,I 0),(4,I 600)]) rfl rfl rfl ?_ rfl rfl
   have c1':(30:Int)≤y:=by omega
   simp only[I]at *
   simp only[AP.f75,go_sem,RY c0,R0 c1']
 have c1':¬(30:Int)≤y:=by omega
 rw[vw,if_neg c1]
 by_cases c2:y<4
 · rw[if_pos c2]
   refine tE (fn:=AP.f75) (h2:=h.dH) (e:=[(2,I (1+y:Nat)),(3,I 0),(4,I 0)]) rfl rfl rfl ?_ rfl rfl
   have c2':(y:Int)<4:=by omega
   have w3:IntKind.wrap .i64 (1+(y:Int))=((1+y:Nat):Int):=by rw[show 1+(y:Int)=((1+y:Nat):Int)by omega];exact u4 (by omega)
   simp only[I]at *
   simp only[AP.f75,go_sem,RY c0,RY c1',R0 c2',w3]
 rw[if_neg c2]
 have c2':¬(y:Int)<4:=by omega
 have q1:bj .quo (.int .i64 (y:Int)) (.int .i64 2)=some (.int .i64 ((y/2:Nat):Int)):=by
  rw[ry _ _ _ (by omega),show(2:Int)=((2:Nat):Int)from rfl,yJ,u4 (by omega)]
 have q2:bj .rem (.int .i64 (y:Int)) (.int .i64 2)=some (.int .i64 ((y%2:Nat):Int)):=by
  rw[rz _ _ _ (by omega),show(2:Int)=((2:Nat):Int)from rfl,Dy]
 have w3:IntKind.wrap .i64 (((y/2:Nat):Int)-1)=((y/2-1:Nat):Int):=by rw[show((y/2:Nat):Int)-1=((y/2-1:Nat):Int)by omega];exact u4 (by omega)
 have w4:IntKind.wrap .i64 (2+((y%2:Nat):Int))=((2+y%2:Nat):Int):=by rw[show 2+((y%2:Nat):Int)=((2+y%2:Nat):Int)by omega];exact u4 (by omega)
 have hp:2^(y/2-1)≤2^13:=Sc (by omega) (by omega)
 have hm:(2+y%2)* 2^(y/2-1)≤3* 2^13:=Nat.mul_le_mul (by omega) hp
 have q3:oP .shl .i64 ((2+y%2:Nat):Int) ((y/2-1:Nat):Int)=some (.int .i64 (((2+y%2)* 2^(y/2-1):Nat):Int)):=Bb (by omega) (by omega)
 generalize (2+y%2)* 2^(y/2-1)=P at *
 have w5:IntKind.wrap .i64 (1+(P:Int))=((1+P:Nat):Int):=by rw[show 1+(P:Int)=((1+P:Nat):Int)by omega];exact u4 (by omega)
 refine tE (fn:=AP.f75) (h2:=h.dH) (e:=[(2,I (1+P:Nat)),(3,I (y/2-1:Nat)),(4,I 0)]) rfl rfl rfl ?_ rfl rfl
 simp only[I]at *
 simp only[AP.f75,go_sem,RY c0,RY c1',RY c2',q1,q2,w3,w4,q3,w5]
abbrev Rs:=Except Int (Nat×List Nat)
def Fin (r:Rs) (S:SS):Prop:=match r with
 | .ok q=>S=⟨q.1,q.2,0⟩
 | .error k=>S.e=k∧k≠0
theorem Fj {c:SC} {S:SS} (b:Nat) (he:S.e=0) (hm:¬c.most≤S.out.length):Dk c b S=⟨S.at_,S.out++[b],0⟩:=by
 simp only[Dk,if_neg hm,he,if_true]
theorem BD {c:SC} {S:SS} (b:Nat) (he:S.e=0) (hm:c.most≤S.out.length):(Dk c b S).e=701:=by
 simp [Dk,hm,vz,he]
def vN (t:ByteArray) (most:Int):Nat→Nat→List Nat→Rs
 |0,p,out=>.ok (p,out)
 |n+1,p,out=>if p+8≤8* t.size then(if most≤out.length then .error 701 else vN t most n (p+8) (out++[u0 t p 8]))else .error 700
theorem ye {c:SC} {S:SS} {h:H} {ov:AV} (st:St c S h ov) (n:Nat) (hs:n=0∨S.e≠0):
 ∃e',Lp AP.A [0,2] AP.f39L0 [(0,.aD c.s 0),(2,I n)] h=some (.exit 0,e',h):=by
 have gs:=st.gs
 refine⟨[(0,.aD c.s 0),(2,I n),(26,.bool false)],sM ?_⟩
 by_cases hn:n=0
 · have c1:¬(0:Int)<n:=by omega
   simp only[I]at *
   simp only[AP.f39L0,go_sem,RY c1]
 · have c1:(0:Int)<n:=by omega
   have c2:(S.e==0)=false:=tK (by omega)
   simp only[I]at *
   simp only[AP.f39L0,go_sem,R0 c1,gs,c2]
theorem Du {c : SC} : ∀ (n : Nat) (S : SS) (h : H) (ov : AV), St c S h ov → S.e = 0 → n ≤ 65535 →
 ∃e' h' ov' S',Lp AP.A [0,2] AP.f39L0 [(0,.aD c.s 0),(2,I n)] h=some (.exit 0,e',h')∧St c S' h' ov'∧Fr c h ov h' ov'∧Fin (vN c.text c.most n S.at_ S.out) S'
 | 0, S, h, ov, st, he, hn => by
   obtain⟨e',q⟩:=ye st 0 (.inl rfl)
   exact⟨e',h,ov,S,q,st,Fr.refl _ _ _,by simp only[vN,Fin];cases S;simp_all⟩
 | n + 1, S, h, ov, st, he, hn => by
   have gs:=st.gs
   obtain⟨h1,k1,k2,k3⟩:=yC st 8 8 rfl (by omega)
   have gs1:=k2.gs
   have c1:(0:Int)<((n+1:Nat):Int):=by omega
   have w1:IntKind.wrap .i64 (((n+1:Nat):Int)-1)=(n:Int):=by rw[show((n+1:Nat):Int)-1=(n:Int)by omega];exact u4 (by omega)
   by_cases hp:S.at_+8≤8* c.text.size
   · have eg:u5 c 8 S=(u0 c.text S.at_ 8,{S with at_:=S.at_+8}):=by rw[u5,if_pos hp]
     rw[eg]at k1 k2 gs1
     dsimp only at k1 k2 gs1
     obtain⟨h2,ov2,p1,p2,p3⟩:=Kk k2 (b:=u0 c.text S.at_ 8)
     have hb:=wE c.text S.at_ 8
     have w2:IntKind.wrap .u8 ((u0 c.text S.at_ 8:Nat):Int)=((u0 c.text S.at_ 8:Nat):Int):=wrap_u8 (by simpa using hb)
     have step:aL (aR AP.A) bp AP.f39L0 (ay [(0,.aD c.s 0),(2,I (n+1:Nat))] [0,2]) h=some (.normal,[(0,.aD c.s 0),(2,I n)],h2):=by
      simp only[I]at *
      simp only[AP.f39L0,go_sem,R0 c1,gs,he,k1,gs1,w2,p1,w1]
     rw[vN,if_pos hp]
     by_cases hm:c.most≤S.out.length
     · rw[if_pos hm]
       have hl:=BD (c:=c) (S:={S with at_:=S.at_+8}) (u0 c.text S.at_ 8) he hm
       obtain⟨e',q⟩:=ye p2 n (.inr (by rw[hl];decide))
       exact⟨e',h2,ov2,_,sN step q,p2,k3.trans p3,hl,by decide⟩
     · rw[if_neg hm]
       rw[Fj (S:={S with at_:=S.at_+8}) _ he hm]at p2
       obtain⟨e',h',ov',S',q1,q2,q3,q4⟩:=Du n _ h2 ov2 p2 rfl (by omega)
       exact⟨e',h',ov',S',sN step q1,q2,(k3.trans p3).trans q3,q4⟩
   · have eg:u5 c 8 S=(0,{S with e:=700}):=by rw[u5,if_neg hp,vz,if_pos he]
     rw[eg]at k1 k2 gs1
     dsimp only at k1 k2 gs1
     have step:aL (aR AP.A) bp AP.f39L0 (ay [(0,.aD c.s 0),(2,I (n+1:Nat))] [0,2]) h=some (.normal,[(0,.aD c.s 0),(2,I n)],h1):=by
      simp only[I]at *
      simp only[AP.f39L0,go_sem,R0 c1,gs,he,k1,gs1,w1]
     rw[vN,if_neg hp]
     obtain⟨e',q⟩:=ye k2 n (.inr (by simp))
     exact⟨e',h1,ov,_,sN step q,k2,k3,rfl,by decide⟩
def wk (t:ByteArray) (most:Int) (p0:Nat) (out:List Nat):Rs:=
 let p:=(p0+7)/8* 8
 if p+32≤8* t.size then(if u0 t p 16+u0 t (p+16) 16=65535 then vN t most (u0 t p 16) (p+32) out else .error 700)else .error 700
theorem KP {n:Nat} (hn:n<65536):bits .xor .i64 (n:Int) 65535=((65535-n:Nat):Int):=by
 have h1:n<2^16:=by simpa using hn
 show IntKind.wrap .i64 (((BitVec.ofInt 64 (n:Int)^^^BitVec.ofInt 64 ((65535:Nat):Int)).toNat:Nat):Int)=_
 rw[BitVec.toNat_xor,xW 64 n (by omega),xW 64 65535 (by omega)]
 have h2:n^^^65535=65535-n:=by
  have:65535-n=2^16-(n+1):=by omega
  rw[this]
  apply Nat.eq_of_testBit_eq
  intro i
  rw[Nat.testBit_two_pow_sub_succ h1,Nat.testBit_xor,show 65535=2^16-1 from rfl,Nat.testBit_two_pow_sub_one]
  by_cases hi:i<16
  · simp [hi]
  · have:n.testBit i=false:=Nat.testBit_lt_two_pow (Nat.lt_of_lt_of_le h1 (Sc (by omega) (by omega)))
    simp [hi,this]
 rw[h2];exact u4 (by omega)
theorem St.align {c:SC} {S:SS} {h:H} {ov:AV} (st:St c S h ov):∃h',aR AP.A 16 [.aD c.r 0] h=some (I 0,h')∧St c {S with at_:=(S.at_+7)/8* 8} h' ov∧Fr c h ov h' ov:=by
 have hle:=st.yy
 have:=st.OB (p:=(S.at_+7)/8* 8) (by omega)
 exact⟨_,KY h c.r c.text S.at_ st.gr st.fr st.sz st.yy,this.1,this.2⟩
theorem KH {c : SC} {S : SS} {h : H} {ov : AV} (st : St c S h ov) (he : S.e = 0) :
 ∃h' ov' S',aR AP.A 39 [.aD c.s 0] h=some (.bK [],h')∧St c S' h' ov'∧Fr c h ov h' ov'∧Fin (wk c.text c.most S.at_ S.out) S':=by
 have gs:=st.gs
 obtain⟨h1,a1,a2,a3⟩:=st.align
 obtain⟨p,hp⟩:∃p,p=(S.at_+7)/8* 8:=⟨_,rfl⟩
 rw[←hp]at a2
 have hS:wk c.text c.most S.at_ S.out=if p+32≤8* c.text.size then(if u0 c.text p 16+u0 c.text (p+16) 16=65535 then vN c.text c.most (u0 c.text p 16) (p+32) S.out else .error 700)else .error 700:=by
  rw[hp];rfl
 rw[hS];clear hS
 obtain⟨h2,b1,b2,b3⟩:=yC a2 16 16 rfl (by omega)
 obtain⟨h3,d1,d2,d3⟩:=yC b2 16 16 rfl (by omega)
 obtain⟨n,hn⟩:∃n,n=(u5 c 16 {S with at_:=p}).1:=⟨_,rfl⟩
 obtain⟨S2,hS2⟩:∃n,n=(u5 c 16 {S with at_:=p}).2:=⟨_,rfl⟩
 obtain⟨m,hm⟩:∃n,n=(u5 c 16 S2).1:=⟨_,rfl⟩
 obtain⟨S3,hS3⟩:∃n,n=(u5 c 16 S2).2:=⟨_,rfl⟩
 rw[←hn]at b1;rw[←hS2]at b2 d1 d2;rw[←hm]at d1;rw[←hS3]at d2
 have hn16:n<65536:=by
  rw[hn];unfold u5;split
  · simpa using wE c.text p 16
  · simp
 have x1:=KP hn16
 by_cases hx:m=65535-n
 · have c1:((m:Int) !=((65535-n:Nat):Int))=false:=tM (by omega)
   have fin:∀e' h',Lp AP.A [0,2] AP.f39L0 [(0,.aD c.s 0),(2,I n)] h3=some (.exit 0,e',h')→aR AP.A 39 [.aD c.s 0] h=some (.bK [],h'):=by
    intro e' h' q
    refine vT (fn:=AP.f39) (e:=[]) rfl rfl rfl ?_ rfl
    simp only[I]at *
    simp only[AP.f39,go_sem,rK,gs,a1,b1,d1,x1,c1,q]
   by_cases h32:p+32≤8* c.text.size
   · have e2:u5 c 16 {S with at_:=p}=(u0 c.text p 16,{S with at_:=p+16}):=by rw[u5,if_pos (by show p+16≤_;omega)]
     rw[e2]at hn hS2;dsimp only at hn hS2;subst hS2
     have e3:u5 c 16 {S with at_:=p+16}=(u0 c.text (p+16) 16,{S with at_:=p+16+16}):=by rw[u5,if_pos (by show p+16+16≤_;omega)]
     rw[e3]at hm hS3;dsimp only at hm hS3;subst hS3
     rw[if_pos h32,←hn,←hm,if_pos (by omega)]
     obtain⟨e',h',ov',S',q1,q2,q3,q4⟩:=Du n _ h3 ov d2 he (by omega)
     exact⟨h',ov',S',fin e' h' q1,q2,((a3.trans b3).trans d3).trans q3,q4⟩
   · rw [if_neg h32]
     have he3:S3.e=700:=by
      rw[hS3,hS2]
      unfold u5
      by_cases q1:p+16≤8* c.text.size
      · simp only[if_pos q1]
        rw[if_neg (by omega)];simp [vz,he]
      · simp only[if_neg q1,vz,he,if_true]
        split<;>simp
     obtain⟨e',q⟩:=ye d2 n (.inr (by rw[he3];decide))
     exact⟨h3,ov,S3,fin e' h3 q,d2,(a3.trans b3).trans d3,he3,by decide⟩
 · have c1:((m:Int) !=((65535-n:Nat):Int))=true:=tN (by omega)
   obtain⟨h4,f1,f2,f3⟩:=xg d2 700
   have he4:(vz 700 S3).e=700:=by
    have:S3.e=0∨S3.e=700:=by
     rw[hS3,hS2]
     unfold u5
     by_cases q1:p+16≤8* c.text.size
     · simp only[if_pos q1]
       split<;>simp [vz,he]
     · simp only[if_neg q1,vz,he,if_true]
       split<;>simp
    rcases this with q|q<;>simp [vz,q]
   obtain⟨e',q⟩:=ye f2 n (.inr (by rw[he4];decide))
   refine⟨h4,ov,vz 700 S3, ?_,f2,((a3.trans b3).trans d3).trans f3, ?_⟩
   · refine vT (fn:=AP.f39) (e:=[]) rfl rfl rfl ?_ rfl
     simp only[I]at *
     simp only[AP.f39,go_sem,rK,gs,a1,b1,d1,x1,c1,f1,q]
   · by_cases h32:p+32≤8* c.text.size
     · have e2:u5 c 16 {S with at_:=p}=(u0 c.text p 16,{S with at_:=p+16}):=by rw[u5,if_pos (by show p+16≤_;omega)]
       rw[e2]at hn hS2;dsimp only at hn hS2;subst hS2
       have e3:u5 c 16 {S with at_:=p+16}=(u0 c.text (p+16) 16,{S with at_:=p+16+16}):=by rw[u5,if_pos (by show p+16+16≤_;omega)]
       rw[e3]at hm hS3;dsimp only at hm hS3
       rw[if_pos h32,←hn,←hm,if_neg (by omega)]
       exact⟨he4,by decide⟩
     · rw[if_neg h32];exact⟨he4,by decide⟩
def w9 (most:Int) (d:Nat):Nat→List Nat→Except Int (List Nat)
 |0,out=>.ok out
 |n+1,out=>if most≤out.length then .error 701 else w9 most d n (out++[out.getD (out.length-d) 0])
def KQ (l:List Nat):Prop:=∀b∈l,b<256
theorem yA {c:SC} {S:SS} {h:H} {ov:AV} (st:St c S h ov) (n d:Nat) (hs:n=0∨S.e≠0):
 ∃e',Lp AP.A [0,6,8] AP.f61L0 [(0,.aD c.s 0),(6,I n),(8,I d)] h=some (.exit 0,e',h):=by
 have gs:=st.gs
 refine⟨[(0,.aD c.s 0),(6,I n),(8,I d),(53,.bool false)],sM ?_⟩
 by_cases hn:n=0
 · have c1:¬(0:Int)<n:=by omega
   simp only[I]at *
   simp only[AP.f61L0,go_sem,RY c1]
 · have c1:(0:Int)<n:=by omega
   have c2:(S.e==0)=false:=tK (by omega)
   simp only[I]at *
   simp only[AP.f61L0,go_sem,R0 c1,gs,c2]
theorem mZ.elem {h:H} {v:AV} {cs:List AV} (o:mZ h v cs) {i:Nat} {x:AV} (hx:cs[i]?=some x):∃id,v=.aE id 0 cs.length 1∧fE 1 v (I i)=some (.aD id i)∧h.get id=some cs:=by
 have hi:i<cs.length:=(uu.1 hx).1
 rcases o with ⟨rfl,rfl⟩|⟨id,rfl,h1,_⟩
 · simp at hi
 · exact⟨id,rfl,by simp [fE,jY hi],h1⟩
theorem K5 {l:List Nat} {i:Nat} (h:i<l.length):(yi l)[i]?=some (.int .u8 (l.getD i 0:Nat)):=by
 simp [yi,uJ,h,List.getD]
theorem DV {c:SC} (d:Nat) (hd:0<d):∀(n:Nat) (S:SS) (h:H) (ov:AV),St c S h ov→S.e=0→d≤S.out.length→n≤65535→
 ∃ e' h' ov' S', Lp AP.A [0, 6, 8] AP.f61L0 [(0, .aD c.s 0), (6, I n), (8, I d)] h = some (.exit 0, e', h') ∧ St c S' h' ov' ∧ Fr c h ov h' ov' ∧ match w9 c.most d n S.out with
   | .ok o=>S'={S with out:=o}
   | .error k=>S'.e=k∧k≠0
 | 0, S, h, ov, st, he, hl, hn => by
   obtain⟨e',q⟩:=yA st 0 d (.inl rfl)
   exact⟨e',h,ov,S,q,st,Fr.refl _ _ _,by simp only[w9]⟩
 | n + 1, S, h, ov, st, he, hl, hn => by
   have gs:=st.gs
   have hol:=st.ol
   have hml:=st.ml
   have ln:=st.own.len
   rw[yQ]at ln
   have c1:(0:Int)<((n+1:Nat):Int):=by omega
   have w1:IntKind.wrap .i64 (((n+1:Nat):Int)-1)=(n:Int):=by rw[show((n+1:Nat):Int)-1=(n:Int)by omega];exact u4 (by omega)
   have w2:IntKind.wrap .i64 ((S.out.length:Int)-d)=((S.out.length-d:Nat):Int):=by rw[show(S.out.length:Int)-d=((S.out.length-d:Nat):Int)by omega];exact u4 (by omega)
   have hb:=K5 (l:=S.out) (i:=S.out.length-d) (by omega)
   obtain⟨id,i1,i2,i3⟩:=st.own.elem hb
   obtain⟨h2,ov2,p1,p2,p3⟩:=Kk st (b:=S.out.getD (S.out.length-d) 0)
   have step:aL (aR AP.A) bp AP.f61L0 (ay [(0,.aD c.s 0),(6,I (n+1:Nat)),(8,I d)] [0,6,8]) h=some (.normal,[(0,.aD c.s 0),(6,I n),(8,I d)],h2):=by
    clear i1
    simp only[I]at *
    simp only[AP.f61L0,go_sem,R0 c1,gs,he,ln,w2,i2,i3,hb,p1,w1]
   rw[w9]
   by_cases hm:c.most≤S.out.length
   · rw[if_pos hm]
     have hl:=BD (c:=c) (S:=S) (S.out.getD (S.out.length-d) 0) he hm
     obtain⟨e',q⟩:=yA p2 n d (.inr (by rw[hl];decide))
     exact⟨e',h2,ov2,_,sN step q,p2,p3,hl,by decide⟩
   · rw[if_neg hm]
     rw[Fj _ he hm]at p2
     obtain⟨e',h',ov',S',q1,q2,q3,q4⟩:=DV d hd n _ h2 ov2 p2 rfl (by simp;omega) (by omega)
     refine⟨e',h',ov',S',sN step q1,q2,p3.trans q3, ?_⟩
     dsimp only at q4 ⊢
     rw[he]
     exact q4
def wZ (t : ByteArray) (most : Int) (dl : List Int) (y : Nat) (p : Nat) (out : List Nat) : Rs :=
 match lenOf y with
 |none=>.error 700
 | some (least, extra) =>
   if p+extra≤8* t.size then
    match wY t dl 15 1 0 (p+extra)with
    |none=>.error 700
    | some (z, p2) => match vw z.toNat with
      |none=>.error 700
      | some (ld, xd) =>
        if p2+xd≤8* t.size∧ld+u0 t p2 xd≤out.length then
         (match w9 most (ld+u0 t p2 xd) (least+u0 t p extra) out with
         | .ok o=>.ok (p2+xd,o)
         | .error k=>.error k)
        else .error 700
   else .error 700
theorem KK {l:List Int} {n:Nat} {y:Int} (h:y∈syms l n):0≤y∧y<l.length:=by
 unfold syms at h
 split at h
 · cases h
 · rw[List.mem_filterMap]at h
   obtain⟨q,hq,h⟩:=h
   split at h
   · obtain rfl:=uh h
     have:=List.mem_zipIdx hq
     omega
   · cases h
theorem JO {l:List Int} {n:Nat} {v y:Int} (h:xw l n v=some y):0≤y∧y<l.length:=by
 unfold xw at h
 split at h
 · exact KK (uE h)
 · cases h
theorem wO {t : ByteArray} {l : List Int} : ∀ {k n v p : Nat} {y : Int} {p2 : Nat}, wY t l k n v p = some (y, p2) → 0 ≤ y ∧ y < l.length ∧ p < p2 ∧ p2 ≤ 8 * t.size
 |0,_,_,_,_,_,h=>by cases h
 | k + 1, n, v, p, y, p2, h => by
   rw[wY]at h
   split at h
   · split at h
     · rename_i hf
       obtain⟨rfl,rfl⟩:=uj (uh h)
       have:=JO hf
       omega
     · have:=wO h
       omega
   · cases h
theorem JD {c : SC} {S : SS} {h : H} {ov : AV} (dl : List Int) (hdl : dl.length < 100000) (st : St c S h ov) (he : S.e = 0) (y : Nat) (hy : y < 100000) :
 ∃h' ov' S',aR AP.A 61 [.aD c.s 0,I y,vu dl] h=some (.bK [],h')∧St c S' h' ov'∧Fr c h ov h' ov'∧Fin (wZ c.text c.most dl y S.at_ S.out) S':=by
 have lo:=H5 h y (by omega)
 unfold wZ
 cases hlo:lenOf y with
 | none =>
   rw[hlo]at lo
   obtain⟨h1,S1,k1,k2,k3,k4⟩:=EF st he
   have gs1:=k2.gs
   have c1:(S1.e !=0)=true:=tN (by omega)
   refine⟨h1,ov,S1, ?_,k2,k3,k4,by decide⟩
   refine s7 (fn:=AP.f61) (e:=[(0,.aD c.s 0),(2,vu dl),(6,I 0),(20,.bool true)]) (vs:=[]) rfl rfl rfl ?_ rfl
   simp only[I,DC]at *
   simp only[AP.f61,go_sem,lo,k1,gs1,c1]
 | some le =>
   obtain⟨least,extra⟩:=le
   rw[hlo]at lo
   obtain⟨b1,b2,b3⟩:=C6 hlo
   obtain⟨h1,k1,k2,k3⟩:=Iw st (n:=extra) (least:=least) (by omega) (by omega)
   dsimp only
   by_cases hp:S.at_+extra≤8* c.text.size
   · have eg : u5 c extra S = (u0 c.text S.at_ extra, { S with at_ := S.at_ + extra }) := by rw [u5, if_pos hp]
     rw[eg]at k1 k2
     dsimp only at k1 k2
     rw[if_pos hp]
     have gs1:=k2.gs
     have hve:=wE c.text S.at_ extra
     have hve2:2^extra≤2^5:=Sc (by omega) b2
     obtain⟨h2,S2,z,s1,s2,s3,s4⟩:=Dw dl hdl k2 he
     have gs2:=s2.gs
     have c1:(S.e !=0)=false:=tM he
     dsimp only at s4 gs1
     cases hz:wY c.text dl 15 1 0 (S.at_+extra)with
     | none =>
       rw[hz]at s4
       obtain⟨s4,s5⟩:=s4
       have c2:(S2.e !=0)=true:=tN (by omega)
       refine⟨h2,ov,S2, ?_,s2,k3.trans s3,s4,by decide⟩
       refine s7 (fn:=AP.f61) (e:=[(0,.aD c.s 0),(6,I (least+u0 c.text S.at_ extra:Nat)),(7,I z),(28,.bool true)]) (vs:=[]) rfl rfl rfl ?_ rfl
       simp only[I,DC]at *
       simp only[AP.f61,go_sem,lo,k1,gs1,c1,s1,gs2,c2]
     | some zp =>
       obtain⟨z2,p2⟩:=zp
       rw[hz]at s4
       obtain⟨s4,s5⟩:=s4
       subst s5 s4
       have zb:=wO hz
       obtain⟨zn,hzn⟩:∃n:Nat,z=n:=R2 zb.1
       subst hzn
       have dob:=FW h2 zn (by omega)
       have c2:(S.e !=0)=false:=tM he
       dsimp only at gs2 ⊢
       rw[Int.toNat_natCast]
       cases hdo:vw zn with
       | none =>
         rw[hdo]at dob
         obtain⟨h3,S3,v1,v2,v3,v4⟩:=EF s2 he
         have gs3:=v2.gs
         have ln:=v2.own.len
         rw[yQ]at ln
         have hn0:¬((S3.out.length:Int)<0):=by omega
         obtain⟨e',q⟩:=yA v2 (least+u0 c.text S.at_ extra) 0 (.inr (by rw[v4];decide))
         refine⟨h3,ov,S3, ?_,v2,(k3.trans s3).trans v3,v4,by decide⟩
         refine vT (fn:=AP.f61) (e:=[]) (vs:=[]) rfl rfl rfl ?_ rfl
         have q':Lp AP.A [0,6,8] AP.f61L0 [(0,.aD c.s 0),(6,I (least+u0 c.text S.at_ extra:Nat)),(8,I 0)] h3=some (.exit 0,e',h3):=q
         clear q
         simp only[I,DC]at *
         simp only[AP.f61,go_sem,rK,lo,k1,gs1,c1,s1,gs2,c2,dob,v1,gs3,ln,RY hn0,q']
       | some lx =>
         obtain⟨ld,xd⟩:=lx
         rw[hdo]at dob
         obtain⟨d1,d2,d3⟩:=Bl hdo
         obtain⟨h3,v1,v2,v3⟩:=Iw s2 (n:=xd) (least:=ld) (by omega) (by omega)
         obtain⟨x,hx⟩:∃x,x=(u5 c xd {S with at_:=p2}).1:=⟨_,rfl⟩
         obtain⟨S3,hS3⟩:∃x,x=(u5 c xd {S with at_:=p2}).2:=⟨_,rfl⟩
         rw[←hx]at v1;rw[←hS3]at v2
         have ho3:S3.out=S.out:=by rw[hS3];unfold u5;split<;>simp [vz];split<;>rfl
         have gs3:=v2.gs
         have ln:=v2.own.len
         rw[yQ]at ln
         dsimp only
         by_cases hbk:S3.out.length<ld+x
         · have hbk':(S3.out.length:Int)<((ld+x:Nat):Int):=by omega
           obtain⟨h4,f1,f2,f3⟩:=xg v2 700
           have he4:(vz 700 S3).e=700:=by
            have:S3.e=0∨S3.e=700:=by
             rw[hS3];unfold u5;split
             · exact .inl he
             · right;simp [vz,he]
            rcases this with q|q<;>simp [vz,q]
           have hneg:¬(p2+xd≤8* c.text.size∧ld+u0 c.text p2 xd≤S.out.length):=by
            intro ⟨q1,q2⟩
            have:u5 c xd {S with at_:=p2}=(u0 c.text p2 xd,{S with at_:=p2+xd}):=by rw[u5,if_pos q1]
            rw[this]at hx;dsimp only at hx;rw[ho3]at hbk;omega
           rw[if_neg hneg]
           obtain⟨e',q⟩:=yA f2 (least+u0 c.text S.at_ extra) (ld+x) (.inr (by rw[he4];decide))
           refine⟨h4,ov,vz 700 S3, ?_,f2,((k3.trans s3).trans v3).trans f3,he4,by decide⟩
           refine vT (fn:=AP.f61) (e:=[]) (vs:=[]) rfl rfl rfl ?_ rfl
           simp only[I,DC]at *
           simp only[AP.f61,go_sem,rK,lo,k1,gs1,c1,s1,gs2,c2,dob,v1,gs3,ln,R0 hbk',f1,q]
         · have hbk':¬(S3.out.length:Int)<((ld+x:Nat):Int):=by omega
           have fin:∀e' h',Lp AP.A [0,6,8] AP.f61L0 [(0,.aD c.s 0),(6,I (least+u0 c.text S.at_ extra:Nat)),(8,I (ld+x:Nat))] h3=some (.exit 0,e',h')→aR AP.A 61 [.aD c.s 0,I y,vu dl] h=some (.bK [],h'):=by
            intro e' h' q
            refine vT (fn:=AP.f61) (e:=[]) (vs:=[]) rfl rfl rfl ?_ rfl
            simp only[I,DC]at *
            simp only[AP.f61,go_sem,rK,lo,k1,gs1,c1,s1,gs2,c2,dob,v1,gs3,ln,RY hbk',q]
           by_cases hp2:p2+xd≤8* c.text.size
           · have:u5 c xd {S with at_:=p2}=(u0 c.text p2 xd,{S with at_:=p2+xd}):=by rw[u5,if_pos hp2]
             rw[this]at hx hS3;dsimp only at hx hS3
             subst hx hS3
             dsimp only at hbk
             rw[if_pos ⟨hp2,by omega⟩]
             obtain⟨e',h',ov',S',q1,q2,q3,q4⟩:=DV (c:=c) (ld+u0 c.text p2 xd) (by omega) (least+u0 c.text S.at_ extra) _ h3 ov v2 he (by dsimp only;omega) (by omega)
             refine⟨h',ov',S',fin e' h' q1,q2,((k3.trans s3).trans v3).trans q3, ?_⟩
             dsimp only at q4
             cases hcl:w9 c.most (ld+u0 c.text p2 xd) (least+u0 c.text S.at_ extra) S.out with
             |ok o=>rw[hcl]at q4;rw[he]at q4;exact q4
             |error k=>rw[hcl]at q4;exact q4
           · rw[if_neg (fun q=>hp2 q.1)]
             have he3:S3.e=700:=by
              rw[hS3,u5,if_neg hp2];simp [vz,he]
             obtain⟨e',q⟩:=yA v2 (least+u0 c.text S.at_ extra) (ld+x) (.inr (by rw[he3];decide))
             exact⟨h3,ov,S3,fin e' h3 q,v2,(k3.trans s3).trans v3,he3,by decide⟩
   · have eg:u5 c extra S=(0,{S with e:=700}):=by rw[u5,if_neg hp,vz,if_pos he]
     rw[eg]at k1 k2
     dsimp only at k1 k2
     rw[if_neg hp]
     have gs1:=k2.gs
     refine⟨h1,ov,_, ?_,k2,k3,rfl,by decide⟩
     refine s7 (fn:=AP.f61) (e:=[(0,.aD c.s 0),(2,vu dl),(6,I (least+0:Nat)),(20,.bool true)]) (vs:=[]) rfl rfl rfl ?_ rfl
     simp only[I,DC]at *
     simp only[AP.f61,go_sem,lo,k1,gs1]
def vQ (t : ByteArray) (most : Int) (ll dl : List Int) : Nat → Nat → List Nat → Rs
 |0,_,_=>.error 700
 | k + 1, p, out => match wY t ll 15 1 0 p with
   |none=>.error 700
   | some (y, p1) =>
     if y<256 then(if most≤out.length then .error 701 else vQ t most ll dl k p1 (out++[y.toNat]))
     else if y=256 then .ok (p1,out)
     else match wZ t most dl y.toNat p1 out with
      | .ok (p2,o)=>vQ t most ll dl k p2 o
      | .error e=>.error e
theorem AJ {t : ByteArray} {most : Int} {dl : List Int} {y p : Nat} {out o : List Nat} {p2 : Nat} (h : wZ t most dl y p out = .ok (p2, o)) : p ≤ p2 ∧ p2 ≤ 8 * t.size := by
 unfold wZ at h
 split at h
 · cases h
 · split at h
   · split at h
     · cases h
     · rename_i hs
       have:=wO hs
       split at h
       · cases h
       · split at h
         · rename_i hq
           split at h
           · have:=Sn (fun r:Rs=>match r with| .ok q=>q.1|_=>0) h
             dsimp only at this
             omega
           · cases h
         · cases h
   · cases h
theorem CF {c:SC} {S:SS} {h:H} {ov:AV} (st:St c S h ov) (a b:AV) (hs:S.e≠0):
 ∃e',Lp AP.A [0,1,2] AP.f40L0 [(0,.aD c.s 0),(1,a),(2,b)] h=some (.exit 0,e',h):=by
 have gs:=st.gs
 refine⟨[(0,.aD c.s 0),(1,a),(2,b),(11,.bool false)],sM ?_⟩
 have c2:(S.e==0)=false:=tK hs
 simp only[I]at *
 simp only[AP.f40L0,go_sem,gs,c2]
theorem z5 {c : SC} (ll dl : List Int) (hll : ll.length < 100000) (hdl : dl.length < 100000) : ∀ (k : Nat) (S : SS) (h : H) (ov : AV), St c S h ov → S.e = 0 → 8 * c.text.size < S.at_ + k →
 ∃e' h' ov' S',(Lp AP.A [0,1,2] AP.f40L0 [(0,.aD c.s 0),(1,vu ll),(2,vu dl)] h=some (.ret,e',h')∨Lp AP.A [0,1,2] AP.f40L0 [(0,.aD c.s 0),(1,vu ll),(2,vu dl)] h=some (.exit 0,e',h'))∧St c S' h' ov'∧Fr c h ov h' ov'∧Fin (vQ c.text c.most ll dl k S.at_ S.out) S'
 |0,S,h,ov,st,he,hk=>by have:=st.yy;omega
 | k + 1, S, h, ov, st, he, hk => by
   have gs:=st.gs
   obtain⟨h1,S1,z,s1,s2,s3,s4⟩:=Dw ll hll st he
   rw[vQ]
   cases hz:wY c.text ll 15 1 0 S.at_ with
   | none =>
     rw[hz]at s4
     obtain⟨s4,s5⟩:=s4
     subst s5
     refine⟨[(0,.aD c.s 0),(1,vu ll),(2,vu dl),(6,I 256),(26,.bool true)],h1,ov,S1,.inl (tq ?_),s2,s3,s4,by decide⟩
     simp only[I]at *
     simp only[AP.f40L0,go_sem,gs,he,s1]
   | some zp =>
     obtain⟨z2,p1⟩:=zp
     rw[hz]at s4
     obtain⟨s4,s5⟩:=s4
     subst s5 s4
     have zb:=wO hz
     obtain⟨y,hy⟩:∃n:Nat,z=n:=R2 zb.1
     subst hy
     dsimp only
     by_cases c1:(y:Int)<256
     · rw[if_pos c1]
       have w1:IntKind.wrap .u8 (y:Int)=y:=wrap_u8 (by omega)
       obtain⟨h2,ov2,p1',p2',p3'⟩:=Kk s2 (b:=y)
       have step:aL (aR AP.A) bp AP.f40L0 (ay [(0,.aD c.s 0),(1,vu ll),(2,vu dl)] [0,1,2]) h=some (.normal,[(0,.aD c.s 0),(1,vu ll),(2,vu dl)],h2):=by
        simp only[I]at *
        simp only[AP.f40L0,go_sem,gs,he,s1,R0 c1,w1,p1']
       by_cases hm:c.most≤S.out.length
       · rw[if_pos hm]
         have hl:=BD (c:=c) (S:={S with at_:=p1}) y he hm
         obtain⟨e',q⟩:=CF p2' (vu ll) (vu dl) (by rw[hl];decide)
         exact⟨e',h2,ov2,_,.inr (sN step q),p2',s3.trans p3',hl,by decide⟩
       · rw[if_neg hm]
         rw[Fj (S:={S with at_:=p1}) _ he hm]at p2'
         obtain⟨e',h',ov',S',q1,q2,q3,q4⟩:=z5 ll dl hll hdl k _ h2 ov2 p2' rfl (by dsimp only;omega)
         refine⟨e',h',ov',S', ?_,q2,(s3.trans p3').trans q3,q4⟩
         rcases q1 with q1|q1
         · exact .inl (sN step q1)
         · exact .inr (sN step q1)
     · rw [if_neg c1]
       by_cases c2:(y:Int)=256
       · rw[if_pos c2]
         refine⟨[(0,.aD c.s 0),(1,vu ll),(2,vu dl),(6,I y),(26,.bool true)],h1,ov,_,.inl (tq ?_),s2,s3, ?_⟩
         · have c2':=tL c2
           simp only[I]at *
           simp only[AP.f40L0,go_sem,gs,he,s1,RY c1,c2']
         · simp only[Fin];rw[he]
       · rw[if_neg c2]
         have c2':=tK c2
         obtain⟨h2,ov2,S2,r1,r2,r3,r4⟩:=JD dl hdl s2 he y (by omega)
         have step:aL (aR AP.A) bp AP.f40L0 (ay [(0,.aD c.s 0),(1,vu ll),(2,vu dl)] [0,1,2]) h=some (.normal,[(0,.aD c.s 0),(1,vu ll),(2,vu dl)],h2):=by
          simp only[I]at *
          simp only[AP.f40L0,go_sem,gs,he,s1,RY c1,c2',r1]
         dsimp only at r4
         rw[Int.toNat_natCast]
         cases hc:wZ c.text c.most dl y p1 S.out with
         | error q =>
           rw[hc]at r4
           obtain⟨e',q'⟩:=CF r2 (vu ll) (vu dl) (by rw[r4.1];exact r4.2)
           exact⟨e',h2,ov2,S2,.inr (sN step q'),r2,s3.trans r3,r4⟩
         | ok q =>
           obtain⟨p2,o⟩:=q
           rw[hc]at r4
           simp only[Fin]at r4
           subst r4
           have hge:=AJ hc
           obtain⟨e',h',ov',S',q1,q2,q3,q4⟩:=z5 ll dl hll hdl k _ h2 ov2 r2 rfl (by dsimp only;omega)
           refine⟨e',h',ov',S', ?_,q2,(s3.trans r3).trans q3,q4⟩
           rcases q1 with q1|q1
           · exact .inl (sN step q1)
           · exact .inr (sN step q1)
theorem HO {c:SC} {S:SS} {h:H} {ov:AV} (ll dl:List Int) (hll:ll.length<100000) (hdl:dl.length<100000) (st:St c S h ov) (he:S.e=0):
 ∃h' ov' S',aR AP.A 40 [.aD c.s 0,vu ll,vu dl] h=some (.bK [],h')∧St c S' h' ov'∧Fr c h ov h' ov'∧Fin (vQ c.text c.most ll dl (8* c.text.size+1) S.at_ S.out) S':=by
 obtain⟨e',h',ov',S',q1,q2,q3,q4⟩:=z5 ll dl hll hdl (8* c.text.size+1) S h ov st he (by omega)
 refine⟨h',ov',S', ?_,q2,q3,q4⟩
 rcases q1 with q1|q1
 · refine s7 (fn:=AP.f40) (e:=e') (vs:=[]) rfl rfl rfl ?_ rfl
   simp only[AP.f40,go_sem,rK,q1]
 · refine vT (fn:=AP.f40) (e:=[]) (vs:=[]) rfl rfl rfl ?_ rfl
   simp only[AP.f40,go_sem,rK,q1]
theorem vm (h:H):∀id c,h.get id=some c→h.dH.get id=some c:=fun _ _ q=>q
def CQ (P:AV→Bool):List AV→Nat→Int
 |[],_=> -1
 |v::r,i=>if P v then(i:Int)else CQ P r (i+1)
theorem F6 (P:AV→Bool):∀(l:List AV) (i:Nat),(0≤CQ P l i)↔l.any P=true
 |[],i=>by simp [CQ]
 | v :: r, i => by
   rw[CQ]
   by_cases h:P v
   · rw[if_pos h];simp [h]
   · rw[if_neg h,F6 P r];simp [h]
theorem CT {x fv : AV} {cs : List AV} (P : AV → Bool) (hP : ∀ v ∈ cs, ∀ g : H, j3 (aR AP.A) [v] g fv = some (.bool (P v), g)) (hl : cs.length < 1000000000) (h : H) (rd : Rd h x cs) :
 ∀ (m i : Nat), m + i = cs.length → (∃ e', Lp AP.A [0, 1, 7, 8] AP.f84L0 [(0, x), (1, fv), (7, I cs.length), (8, I i)] h = some (.exit 0, e', h) ∧ CQ P (cs.drop i) i = -1) ∨
   ∃e',Lp AP.A [0,1,7,8] AP.f84L0 [(0,x),(1,fv),(7,I cs.length),(8,I i)] h=some (.ret,e',h)∧look e' 4=I (CQ P (cs.drop i) i)
 | 0, i, hm => by
   left
   refine⟨[(0,x),(1,fv),(7,I cs.length),(8,I i),(9,.bool false)],sM ?_,by rw[List.drop_eq_nil_of_le (by omega)];rfl⟩
   have c1:¬(i:Int)<(cs.length:Int):=by omega
   simp only[I]at *
   simp only[AP.f84L0,go_sem,RY c1]
 | m + 1, i, hm => by
   have hi:i<cs.length:=by omega
   obtain⟨v,hv⟩:∃v,cs[i]?=some v:=⟨_,RW hi⟩
   have hd:cs.drop i=v::cs.drop (i+1):=by
    rw[List.drop_eq_getElem_cons hi];rw[RW hi]at hv;rw[uh hv]
   obtain⟨p,p1,p2⟩:=rd.elem hv
   have p3:=p2 h (fun _ _ q=>q)
   have c1:(i:Int)<(cs.length:Int):=by omega
   have hPv:=hP v (uE hv) h
   have w1:IntKind.wrap .i64 ((i:Int)+1)=((i+1:Nat):Int):=u4 (n:=i+1) (by omega)
   rw[hd,CQ]
   cases hb:P v with
   | true =>
     right
     rw[hb]at hPv
     rw[if_pos rfl]
     refine⟨[(4,I i)],tq ?_,rfl⟩
     simp only[I]at *
     simp only[AP.f84L0,go_sem,R0 c1,p1,p3,hPv]
   | false =>
     rw[hb]at hPv
     have step:aL (aR AP.A) bp AP.f84L0 (ay [(0,x),(1,fv),(7,I cs.length),(8,I i)] [0,1,7,8]) h=some (.normal,[(0,x),(1,fv),(7,I cs.length),(8,I (i+1:Nat))],h):=by
      simp only[I]at *
      simp only[AP.f84L0,go_sem,R0 c1,p1,p3,hPv,w1]
     rw[if_neg (by decide)]
     rcases CT P hP hl h rd m (i+1) (by omega)with ⟨e',q1,q2⟩|⟨e',q1,q2⟩
     · exact .inl ⟨e',sN step q1,q2⟩
     · exact .inr ⟨e',sN step q1,q2⟩
theorem Lu {x fv:AV} {cs:List AV} (P:AV→Bool) (hP:∀v∈cs,∀g:H,j3 (aR AP.A) [v] g fv=some (.bool (P v),g)) (hl:cs.length<1000000000) (h:H) (rd:Rd h x cs):
 aR AP.A 84 [x,fv] h=some (I (CQ P cs 0),h):=by
 have rd':=rd.mono (vm h)
 have ln:=rd.len
 rcases CT P hP hl h.dH rd' cs.length 0 (by omega)with ⟨e',q1,q2⟩|⟨e',q1,q2⟩
 · rw[Sf]at q2
   rw[q2]
   refine tE (fn:=AP.f84) (h2:=h.dH) (e:=[(4,I (-1))]) rfl rfl rfl ?_ rfl rfl
   have q1':Lp AP.A [0,1,7,8] AP.f84L0 [(0,x),(1,fv),(7,I cs.length),(8,I 0)] h.dH=some (.exit 0,e',h.dH):=q1
   clear q1
   simp only[I]at *
   simp only[AP.f84,go_sem,rK,ln,q1']
 · rw[Sf]at q2
   refine tE (fn:=AP.f84) (h2:=h.dH) (e:=e') (vs:=[I (CQ P cs 0)]) rfl rfl rfl ?_ (by simp only[AP.f84,cn,mR,q2];rfl) rfl
   have q1':Lp AP.A [0,1,7,8] AP.f84L0 [(0,x),(1,fv),(7,I cs.length),(8,I 0)] h.dH=some (.ret,e',h.dH):=q1
   clear q1
   simp only[I]at *
   simp only[AP.f84,go_sem,rK,ln,q1']
theorem CH {x fv:AV} {cs:List AV} (P:AV→Bool) (hP:∀v∈cs,∀g:H,j3 (aR AP.A) [v] g fv=some (.bool (P v),g)) (hl:cs.length<1000000000) (h:H) (rd:Rd h x cs):
 aR AP.A 83 [x,fv] h=some (.bool (cs.any P),h):=by
 have k1:=Lu P hP hl h.dH (rd.mono (vm h))
 have ha:=F6 P cs 0
 refine tE (fn:=AP.f83) (h2:=h.dH) (e:=[(4,.bool (cs.any P))]) rfl rfl rfl ?_ rfl rfl
 cases hb:cs.any P with
 | true =>
   have c1:0≤CQ P cs 0:=ha.2 hb
   simp only[I]at *
   simp only[AP.f83,go_sem,k1,R0 c1]
 | false =>
   have c1:¬0≤CQ P cs 0:=by rw[ha,hb];decide
   simp only[I]at *
   simp only[AP.f83,go_sem,k1,RY c1]
def EM (v:AV):Bool:=match v with| .int _ n=>decide (n<0)||decide (15<n)|_=>true
theorem OY (n:Int) (h:H):aR AP.A 82 [I n] h=some (.bool (EM (I n)),h):=by
 by_cases c1:n<0
 · refine tE (fn:=AP.f82) (h2:=h.dH) (e:=[(2,.bool true)]) rfl rfl rfl ?_ rfl ?_
   · simp only[I]at *
     simp only[AP.f82,go_sem,R0 c1]
   · simp [EM,I,c1];rfl
 · refine tE (fn:=AP.f82) (h2:=h.dH) (e:=[(2,.bool (decide (15<n)))]) rfl rfl rfl ?_ rfl ?_
   · simp only[I]at *
     simp only[AP.f82,go_sem,RY c1]
   · simp [EM,I,c1];rfl
def Ah (l:List Int):Bool:=decide (1≤l.length)&&decide (l.length≤288)&& !((ints l).any EM)
theorem LW (h:H) (x:AV) (l:List Int) (hl:l.length<100000) (rd:Rd h x (ints l)):aR AP.A 81 [x] h=some (.bool (Ah l),h):=by
 have hP:∀v∈ints l,∀g:H,j3 (aR AP.A) [v] g (.fn 82 [] [])=some (.bool (EM v),g):=by
  intro v hv g
  obtain⟨n,_,rfl⟩:=R4.1 hv
  rw[nu];exact OY n g
 have k1:=CH EM hP (by simp;omega) h.dH (rd.mono (vm h))
 have ln:=rd.len
 rw[pk]at ln
 refine tE (fn:=AP.f81) (h2:=h.dH) (e:=[(2,.bool (Ah l))]) rfl rfl rfl ?_ rfl rfl
 unfold Ah
 by_cases c1:1≤l.length
 · have c1':(1:Int)≤(l.length:Int):=by omega
   by_cases c2:l.length≤288
   · have c2':(l.length:Int)≤288:=by omega
     simp only[I]at *
     simp only[AP.f81,go_sem,ln,R0 c1',R0 c2',R0 c1,R0 c2,k1,Bool.true_and]
   · have c2':¬(l.length:Int)≤288:=by omega
     simp only[I]at *
     simp only[AP.f81,go_sem,ln,R0 c1',RY c2',R0 c1,RY c2,Bool.true_and,Bool.false_and]
 · have c1':¬(1:Int)≤(l.length:Int):=by omega
   simp only[I]at *
   simp only[AP.f81,go_sem,ln,RY c1',RY c1,Bool.false_and]
def vp (l:List Int):Int:=if Ah l=false then 300 else if vo l 15<0 then 301 else if 0<vo l 15 then 302 else 0
theorem Bz {l:List Int} (h:Ah l=true):∀y∈l,0≤y∧y<16:=by
 intro y hy
 simp only[Ah,uz,Bool.not_eq_true',List.any_eq_false]at h
 have:=h.2 (I y) (R4.2 ⟨y,hy,rfl⟩)
 simp [EM,I]at this
 omega
theorem EP (h : H) (x : AV) (l : List Int) (hl : l.length < 100000) (rd : Rd h x (ints l)) : aR AP.A 65 [x] h = some (I (vp l), h) := by
 have rd':=rd.mono (vm h)
 have k1:=LW h.dH x l hl rd'
 unfold vp
 by_cases hm:Ah l=true
 · have k2:=zq h.dH x l hl (Bz hm) rd'
   have hb:vu l=.aK (m0 49 (wF l)) 0:=rfl
   have g:(m0 49 (wF l))[48]?=some (I (vo l 15)):=by rw[fC (by omega)];rfl
   rw[hb]at k2
   clear hb
   generalize m0 49 (wF l)=T at k2 g
   rw[hm]at k1 ⊢
   rw[if_neg (by decide)]
   by_cases c1:vo l 15<0
   · rw[if_pos c1]
     refine tE (fn:=AP.f65) (h2:=h.dH) (e:=[(2,I 301)]) rfl rfl rfl ?_ rfl rfl
     simp only[I]at *
     simp only[AP.f65,go_sem,k1,k2,g,R0 c1]
   · rw[if_neg c1]
     by_cases c2:0<vo l 15
     · rw[if_pos c2]
       refine tE (fn:=AP.f65) (h2:=h.dH) (e:=[(2,I 302)]) rfl rfl rfl ?_ rfl rfl
       simp only[I]at *
       simp only[AP.f65,go_sem,k1,k2,g,RY c1,R0 c2]
     · rw[if_neg c2]
       refine tE (fn:=AP.f65) (h2:=h.dH) (e:=[(2,I 0)]) rfl rfl rfl ?_ rfl rfl
       simp only[I]at *
       simp only[AP.f65,go_sem,k1,k2,g,RY c1,RY c2]
 · have hm':Ah l=false:=by simpa using hm
   rw[hm']at k1 ⊢
   rw[if_pos rfl]
   refine tE (fn:=AP.f65) (h2:=h.dH) (e:=[(2,I 300)]) rfl rfl rfl ?_ rfl rfl
   simp only[I]at *
   simp only[AP.f65,go_sem,k1]
def KI:List Int→Int→Int
 |[],s=>s
 |x::r,s=>KI r (s+x)
theorem B8 {x:AV} {l:List Int} (hl:l.length<100000) (hr:∀y∈l,0≤y∧y<16) (h:H) (rd:Rd h x (ints l)):
 ∀(q p:List Int) (s:Int),l=p++q→0≤s→s≤16* p.length→∃e',Lp AP.A [3,6,7,8] AP.f66L0 [(3,I s),(6,x),(7,I l.length),(8,I p.length)] h=some (.exit 0,e',h)∧look e' 3=I (KI q s)
 | [], p, s, hpq, hs0, hs1 => by
   refine⟨[(3,I s),(6,x),(7,I l.length),(8,I p.length),(9,.bool false)],sM ?_,rfl⟩
   have c1:¬(p.length:Int)<(l.length:Int):=by rw[hpq];simp
   simp only[I]at *
   simp only[AP.f66L0,go_sem,RY c1]
 | y :: q, p, s, hpq, hs0, hs1 => by
   have hlen:l.length=p.length+(q.length+1):=by rw[hpq];simp
   have c1:(p.length:Int)<(l.length:Int):=by omega
   have hy:=hr y (by rw[hpq];simp)
   have hv:(ints l)[p.length]?=some (I y):=sq (by rw[hpq];simp)
   obtain⟨a,p1,p2⟩:=rd.elem hv
   have p3:=p2 h (fun _ _ q=>q)
   have w1:IntKind.wrap .i64 (s+y)=s+y:=td (by omega) (by omega)
   have w2:IntKind.wrap .i64 ((p.length:Int)+1)=(((p++[y]).length:Nat):Int):=by
    rw[uU];exact u4 (n:=p.length+1) (by omega)
   have step:aL (aR AP.A) bp AP.f66L0 (ay [(3,I s),(6,x),(7,I l.length),(8,I p.length)] [3,6,7,8]) h=some (.normal,[(3,I (s+y)),(6,x),(7,I l.length),(8,I (p++[y]).length)],h):=by
    simp only[I]at *
    simp only[AP.f66L0,rZ,qj,qg,qi,qh,oA,sE,sD,r8,r9,sf,se,rW,rY,rV,rU,rP,rR,rk,rq,pH,nc,mu,mE,kJ,rN,rM,oE,oF,sG,qN,sB,qz,oj,n8,Nat.reduceEqDiff,ne_eq,not_false_eq_true,ly,kY,R0 c1,p1,p3,w1,w2]
   obtain⟨e',q1,q2⟩:=B8 hl hr h rd q (p++[y]) (s+y) (by rw[hpq];simp) (by omega) (by simp;omega)
   exact⟨e',sN step q1,q2⟩
def xu (l:List Int):Bool:=decide (KI l 0≤1)
theorem Ks (h:H) (x:AV) (l:List Int) (hl:l.length<100000) (hr:∀y∈l,0≤y∧y<16) (rd:Rd h x (ints l)):aR AP.A 66 [x] h=some (.bool (xu l),h):=by
 have rd':=rd.mono (vm h)
 have ln:=rd.len
 rw[pk]at ln
 obtain⟨e',q1,q2⟩:=B8 hl hr h.dH rd' l [] 0 rfl (by omega) (by simp)
 have q1':Lp AP.A [3,6,7,8] AP.f66L0 [(3,I 0),(6,x),(7,I l.length),(8,I 0)] h.dH=some (.exit 0,e',h.dH):=q1
 clear q1
 refine tE (fn:=AP.f66) (h2:=h.dH) (e:=[(2,.bool (xu l))]) rfl rfl rfl ?_ rfl rfl
 simp only[I,xu]at *
 simp only[AP.f66,go_sem,rK,ln,q1',q2]
theorem DE {n:Nat} (h:n<18446744073709551616):IntKind.wrap .u64 (n:Int)=n:=by
 have e:IntKind.wrap .u64 (n:Int)=(n:Int)%18446744073709551616:=by simp [IntKind.wrap,IntKind.bits,IntKind.signed]
 rw[e];omega
theorem Ct {a:Nat} (ha:a<4294967296):bits .and .u64 (a:Int) 4294967295=(a:Int):=by
 show IntKind.wrap .u64 (((BitVec.ofInt 64 (a:Int)&&&BitVec.ofInt 64 ((4294967295:Nat):Int)).toNat:Nat):Int)=_
 rw[BitVec.toNat_and,xW 64 a (by omega),xW 64 4294967295 (by omega)]
 rw[show 4294967295=2^32-1 from rfl,Nat.and_two_pow_sub_one_eq_mod,Nat.mod_eq_of_lt (by simpa using ha)]
 exact DE (by omega)
theorem Ip {a:Nat} (ha:a<4294967296):oP .shr .u64 (a:Int) 32=some (.int .u64 0):=by
 have:(a:Int).fdiv 4294967296=0:=by rw[Int.fdiv_eq_ediv_of_nonneg _ (by omega)];omega
 simp [oP,IntKind.bits,this]
theorem Lx (h:H) (a b:Nat) (ha:a<4294967296) (hb:b<4294967296) (hab:a* b<4294967296):aR AP.A 78 [.int .u64 a,.int .u64 b] h=some (.bK [.int .u64 0,.int .u64 (a* b:Nat)],h):=by
 have a1:=Ct ha
 have a2:=Ct hb
 have s1:=Ip ha
 have s2:=Ip hb
 have s3:=Ip hab
 have w1:IntKind.wrap .u64 ((a:Int)* b)=((a* b:Nat):Int):=by rw[show(a:Int)* b=((a* b:Nat):Int)by simp];exact DE (by omega)
 have w0:IntKind.wrap .u64 0=0:=by decide
 have z1:(0:Int)* b=0:=by omega
 have z2:(a:Int)* 0=0:=by omega
 have s0:oP .shr .u64 0 32=some (.int .u64 0):=Ip (a:=0) (by omega)
 have a0:bits .and .u64 0 4294967295=0:=Ct (a:=0) (by omega)
 refine tE (fn:=AP.f78) (h2:=h.dH) (e:=[(4,.int .u64 0),(5,.int .u64 (a* b:Nat))]) rfl rfl rfl ?_ rfl rfl
 simp only[AP.f78,go_sem,a1,a2,s1,s2,s3,w1,w0,z1,z2,s0,a0,Int.zero_mul,Int.add_zero]
theorem Qo (h:H) (a b:Nat) (ha:a<4294967296) (hb:b<4294967296) (hab:a* b<4294967296):aR AP.A 63 [.int .u64 a,.int .u64 b] h=some (.bK [.int .u64 0,.int .u64 (a* b:Nat)],h):=by
 have k:=Lx h.dH a b ha hb hab
 refine tE (fn:=AP.f63) (h2:=h.dH) (e:=[(4,.int .u64 0),(5,.int .u64 (a* b:Nat))]) rfl rfl rfl ?_ rfl rfl
 simp only[AP.f63,go_sem,k]
theorem yn:∀(B V A C:List AV),V.length=B.length→setFrom (A++(B++C)) A.length V=A++(V++C)
 |[],[],A,C,_=>rfl
 | b :: B, v :: V, A, C, h => by
   rw[oO]
   have h1:(A++(b::B++C)).set A.length v=(A++[v])++(B++C):=by
    rw[List.set_append_right _ _ (uy _)];simp
   rw[h1]
   have h2:=yn B V (A++[v]) C (by simpa using h)
   rw[uU]at h2
   rw[show A.length+1=A.length+[v].length by rfl,h2];simp
 |[],v::V,A,C,h=>by simp at h
 |b::B,[],A,C,h=>by simp at h
theorem IA (n:Nat) {v:AV} (hv:v.sc=true):AV.aC (List.replicate n v)=true:=by
 induction n with
 |zero=>rfl
 |succ n ih=>rw[List.replicate_succ,pN,hv,ih];rfl
theorem Fl (v:AV):∀n,dy n [v]=List.replicate n v
 |0=>rfl
 |n+1=>by rw[dy,Fl v n];rfl
theorem Ko {k y:Nat} (h:k≤y):jT (I k) y=some k:=by
 simp [jT,nk,I];omega
theorem Jw {h:H} {id N k:Nat} {cs:List AV} (hg:h.get id=some cs) (hN:cs.length=N) (hk:k≤N):rF h 1 (.aE id 0 N 1) (some (I k)) none none=some (.aE id k (N-k) 1):=by
 simp [rF,hg,hN,aB,Ko hk]
theorem G5 {h:H} {id N M k:Nat} {cs:List AV} (hg:h.get id=some cs) (hN:cs.length=N) (hM:M≤N) (hk:k≤N):rF h 1 (.aE id 0 M 1) none (some (I k)) none=some (.aE id 0 k 1):=by
 have:jT (I k) N=some k:=Ko hk
 simp [rF,hg,hN,aB,this,hM]
def yV (v:AV) (k N:Nat):List AV:=List.replicate k v++List.replicate (N-k) (I 0)
theorem Kl {v:AV} {k N:Nat} (h:k≤N):(yV v k N).length=N:=by simp [yV];omega
theorem GF {v:AV} {k N m:Nat} (h:k+m≤N):setFrom (yV v k N) k (List.replicate m v)=yV v (k+m) N:=by
 have e:List.replicate (N-k) (I 0)=List.replicate m (I 0)++List.replicate (N-(k+m)) (I 0):=by
  rw[List.replicate_append_replicate];congr 1;omega
 have:=yn (List.replicate m (I 0)) (List.replicate m v) (List.replicate k v) (List.replicate (N-(k+m)) (I 0)) (by simp)
 rw[R9]at this
 rw[yV,e,this,yV,←R7,List.replicate_append_replicate]
theorem B6 (v : AV) (hv : v.sc = true) (N id : Nat) (hN : N < 1000000000) : ∀ (f k : Nat) (h : H), N - k ≤ f → 0 < k → k ≤ N → h.get id = some (yV v k N) → h.floor ≤ id →
 ∃e' h',Lp AP.A [7,8] AP.f43L0 [(7,.aE id 0 N 1),(8,I k)] h=some (.exit 0,e',h')∧look e' 7=.aE id 0 N 1∧h'.get id=some (yV v N N)∧h'.next=h.next
 | f, k, h, hf, hk, hkN, hg, hfl => by
   by_cases hlt:k<N
   · have c1:(k:Int)<(N:Int):=by omega
     have hlen:=Kl (v:=v) hkN
     have s1:=Jw hg hlen hkN
     have s2:=G5 hg hlen (uy N) hkN
     obtain⟨m,hm⟩:∃m,m=Nat.min k (N-k):=⟨_,rfl⟩
     have hm1:0<m∧m≤k∧k+m≤N:=by
      rw[hm];have:Nat.min k (N-k)=min k (N-k):=rfl
      rw[this];omega
     have hsrc:aS h 1 (.aE id 0 k 1)=some (k,List.replicate k v):=by
      simp only[aS,if_true,hg,uv]
      rw[if_pos (by rw[hlen];omega)]
      simp [yV]
     have cp:gO h 1 (.aE id k (N-k) 1) (.aE id 0 k 1)=some (I m,h.set id (yV v (k+m) N)):=by
      unfold gO
      rw[hsrc,uv]
      simp only[IA k hv,hfl,and_self,true_and,if_true,hg,uv,hlen]
      rw[if_pos (by omega),←hm,Nat.mul_one,List.take_replicate,Nat.min_eq_left hm1.2.1,GF hm1.2.2];rfl
     have w1:IntKind.wrap .i64 ((k:Int)+m)=((k+m:Nat):Int):=by rw[show(k:Int)+m=((k+m:Nat):Int)by omega];exact u4 (by omega)
     have al:iJ false (.aE id 0 N 1)=some (I N):=rfl
     have step:aL (aR AP.A) bp AP.f43L0 (ay [(7,.aE id 0 N 1),(8,I k)] [7,8]) h=some (.normal,[(7,.aE id 0 N 1),(8,I (k+m:Nat))],h.set id (yV v (k+m) N)):=by
      simp only[I]at *
      simp only[AP.f43L0,go_sem,al,R0 c1,RZ,Sx,s1,s2,cp,w1]
     match f,hf with
     |0,hf=>omega
     | f + 1, hf =>
       obtain⟨e',h',q1,q2,q3,q4⟩:=B6 v hv N id hN f (k+m) (h.set id (yV v (k+m) N)) (by omega) (by omega) (by omega) (by rw[H.de,if_pos rfl,hg];rfl) (by simpa using hfl)
       exact⟨e',h',sN step q1,q2,q3,by rw[q4];simp⟩
   · have hkN':k=N:=by omega
     subst hkN'
     have c1:¬(k:Int)<(k:Int):=by omega
     have al:iJ false (.aE id 0 k 1)=some (I k):=rfl
     refine⟨[(7,.aE id 0 k 1),(8,I k),(37,.bool false)],h,sM ?_,rfl,hg,rfl⟩
     simp only[I]at *
     simp only[AP.f43L0,go_sem,al,RY c1]
theorem yc (h : H) (x : AV) (y : Int) (N : Nat) (hN : N < 1000000000) (rd : Rd h x [I y]) : aR AP.A 43 [x, I N] h = some (.aV false (ints (List.replicate N y)) 0 N 1, h) := by
 have rd':=rd.mono (vm h)
 have ln:=rd.len
 have mc:=Qo h.dH 1 N (by omega) (by omega) (by omega)
 rw[Nat.one_mul]at mc
 have mc':aR AP.A 63 [.int .u64 1,.int .u64 N] h.dH=some (.bK [.int .u64 0,.int .u64 N],h.dH):=mc
 clear mc
 have c0:¬(N:Int)<0:=by omega
 have w1:IntKind.wrap .u64 1=1:=by decide
 have w2:IntKind.wrap .u64 (N:Int)=N:=DE (by omega)
 have w3:IntKind.wrap .i64 (N:Int)=N:=u4 (by omega)
 have c1:¬(0:Int)<0:=by omega
 have c2:¬(9223372036854775807:Int)<(N:Int):=by omega
 obtain⟨id,hid⟩:∃i,i=h.next:=⟨_,rfl⟩
 obtain⟨g1,hg1⟩:∃g,g=h.dH.alloc (List.replicate N (I 0)):=⟨_,rfl⟩
 have e1:g1.get id=some (List.replicate N (I 0)):=by rw[hg1,H.aW,if_pos (by rw[hid];rfl)]
 have bt:aY [(29,I N),(28,.int .u64 N),(0,x),(6,.int .u64 N)] (.iA 1 8 [I 0] (.t 29) (.t 29))=some (List.replicate N (I 0),fun i=>.aE i 0 N 1):=by
  have c3:(8:Int)* N≤281474976710656:=by omega
  have c4:(N:Int)≤9223372036854775807:=by omega
  simp [aY,I,Fl,c3,c4]
 have hcp : ∃ (k : Nat) (h2 : H), gO g1 1 (.aE id 0 N 1) x = some (I k, h2) ∧ ((k = 0 ∧ N = 0) ∨ (k = 1 ∧ 0 < N)) ∧ h2.get id = some (yV (I y) k N) ∧ h2.floor = h.next ∧ h2.next = g1.next := by
  have rd2:aS g1 1 x=some (1,[I y]):=(rd.mono (fun i c q=>by rw[hg1,H.aW,if_neg (by have:=h.lt _ _ q;show i≠h.next;omega)];exact q)).1
  refine⟨Nat.min 1 N,g1.set id (yV (I y) (Nat.min 1 N) N), ?_, ?_,by rw[H.de,if_pos rfl,e1];rfl,by rw[hg1];simp,by simp⟩
  · unfold gO
    rw[rd2,uv]
    have hf:g1.floor≤id:=by rw[hg1,hid];simp
    have ha:AV.aC [I y]=true:=rfl
    simp only[ha,hf,and_self,true_and,if_true,e1,uv,R9]
    rw[if_pos (by omega),Nat.mul_one]
    have hz:List.replicate N (I 0)=yV (I y) 0 N:=by simp [yV]
    rw[hz]
    have ht:[I y].take (Nat.min 1 N)=List.replicate (Nat.min 1 N) (I y):=by
     cases N with
     |zero=>rfl
     | succ n => have : Nat.min 1 (n + 1) = 1 := by show min 1 (n + 1) = 1; omega
                 rw[this];rfl
    rw[ht,GF (by show 0+min 1 N≤N;omega),uF];rfl
  · cases N with
    |zero=>left;exact⟨rfl,rfl⟩
    |succ n=>right;exact⟨by show min 1 (n+1)=1;omega,by omega⟩
 obtain⟨k,h2,cp1,cp2,cp3,cp4,cp5⟩:=hcp
 have lp:∃e' h3,Lp AP.A [7,8] AP.f43L0 [(7,.aE id 0 N 1),(8,I k)] h2=some (.exit 0,e',h3)∧look e' 7=.aE id 0 N 1∧h3.get id=some (yV (I y) N N):=by
  rcases cp2 with ⟨rfl,rfl⟩|⟨rfl,hN0⟩
  · refine⟨[(7,.aE id 0 0 1),(8,I 0),(37,.bool false)],h2,sM ?_,rfl,cp3⟩
    have al:iJ false (.aE id 0 0 1)=some (I 0):=rfl
    simp only[I]at *
    simp only[AP.f43L0,go_sem,al,Int.natCast_zero]
  · obtain⟨e',h',q1,q2,q3,_⟩:=B6 (I y) rfl N id hN N 1 h2 (by omega) (by omega) (by omega) cp3 (by rw[cp4,hid];exact uy _)
    exact⟨e',h',q1,q2,q3⟩
 obtain⟨e',h3,q1,q2,q3⟩:=lp
 refine tE (fn:=AP.f43) (h2:=h3) (e:=[(4,.aE id 0 N 1)]) (vs:=[.aE id 0 N 1]) rfl rfl rfl ?_ rfl ?_
 · have al:iJ false x=some (I 1):=ln
   have hn:h.dH.next=id:=by rw[hid];rfl
   simp only[I]at *
   simp only[AP.f43,go_sem,al,RY c0,w1,w2,w3,mc',RY c1,RY c2,bt,←hg1,hn,cp1,rK,q1,q2]
 · have hr:yV (I y) N N=ints (List.replicate N y):=by simp [yV,ints]
   show snap h3.get h.next 16 true (.aE id 0 N 1)=_
   unfold snap
   rw[if_neg (by omega),q3,uv,hr,if_pos (by simp)]
   have ht:((ints (List.replicate N y)).drop 0).take (N* 1)=ints (List.replicate N y):=by
    rw[Sf,Nat.mul_one,uP (by simp)]
   rw[ht,xz];rfl
theorem Oj (h:H) (N:Nat) (hN0:0<N) (hN:N<1000000000):aR AP.A 76 [.aP,I N] h=some (.aE h.next 0 0 1,h.alloc (List.replicate N (I 0))):=by
 have c0:¬(N:Int)<0:=by omega
 have c1:(0:Int)<N:=by omega
 have w0:IntKind.wrap .i64 (0-0)=0:=by decide
 have w1:IntKind.wrap .i64 ((N:Int)-0)=N:=by rw[Int.sub_zero];exact u4 (by omega)
 have a1:pI .aP=some (I 0):=rfl
 have a2:iJ false .aP=some (I 0):=rfl
 have a3:rF h 1 .aP none (some (I 0)) none=some .aP:=rfl
 have a4:gN h 1 8 [I 0] .aP (I N)=some (.aE h.next 0 N 1,h.alloc (List.replicate N (I 0))):=by
  have c3:(N:Int)≤281474976710656:=by omega
  have c4:(N:Int)* 8≤281474976710656:=by omega
  have c5:roomy 8 N=true:=by simp [roomy];omega
  simp [gN,I,c3,c4,c5,Fl,hN0]
 have a5:rF (h.alloc (List.replicate N (I 0))) 1 (.aE h.next 0 N 1) none (some (I 0)) none=some (.aE h.next 0 0 1):=
  G5 (by rw[H.aW,if_pos rfl]) (by simp) (uy _) (Nat.zero_le _)
 refine s7 (fn:=AP.f76) (e:=[(4,.aE h.next 0 0 1)]) rfl rfl rfl ?_ rfl
 simp only[I]at *
 simp only[AP.f76,go_sem,RY c0,R0 c1,w0,w1,a1,a2,RZ,Sx,a3,a4,a5]
def cat (ps:List (AV×List Int)):List Int:=ps.flatMap (·.2)
theorem FN (p:AV×List Int) (ps:List (AV×List Int)):cat (p::ps)=p.2++cat ps:=by simp [cat]
theorem AG {h:H} {x:AV} {all:List (AV×List Int)} (rd:Rd h x (all.map (·.1))) (hp:∀p∈all,Rd h p.1 (ints p.2)) (hT:(cat all).length<1000000000) (hA:all.length<1000000000):
 ∀(ps qs:List (AV×List Int)),all=qs++ps→
 ∃e',Lp AP.A [0,3,9,10,11] AP.f62L1 [(0,x),(3,I (cat qs).length),(9,x),(10,I all.length),(11,I qs.length)] h=some (.exit 0,e',h)∧look e' 0=x∧look e' 3=I (cat all).length
 | [], qs, hq => by
   rw[Sd]at hq;subst hq
   refine⟨[(0,x),(3,I (cat all).length),(9,x),(10,I all.length),(11,I all.length),(12,.bool false)],sM ?_,rfl,rfl⟩
   have c1:¬(all.length:Int)<(all.length:Int):=by omega
   simp only[I]at *
   simp only[AP.f62L1,go_sem,RY c1]
 | p :: ps, qs, hq => by
   have hlen:all.length=qs.length+(ps.length+1):=by rw[hq];simp
   have hct:(cat all).length=(cat qs).length+(p.2.length+(cat ps).length):=by rw[hq];simp [cat]
   have c1:(qs.length:Int)<(all.length:Int):=by omega
   have hv:(all.map (·.1))[qs.length]?=some p.1:=by rw[hq];simp
   obtain⟨a,p1,p2⟩:=rd.elem hv
   have p3:=p2 h (fun _ _ q=>q)
   have ln:=(hp p (by rw[hq];simp)).len
   rw[pk]at ln
   have w1:IntKind.wrap .i64 (((cat qs).length:Int)+p.2.length)=((cat (qs++[p])).length:Int):=by
    rw[show((cat qs).length:Int)+p.2.length=((cat (qs++[p])).length:Int)by simp [cat]];exact u4 (by simp [cat]at *;omega)
   have c2:¬((cat (qs++[p])).length:Int)<0:=by omega
   have w2:IntKind.wrap .i64 ((qs.length:Int)+1)=((qs++[p]).length:Int):=by
    rw[uU];exact u4 (n:=qs.length+1) (by omega)
   obtain⟨e',q1,q2,q3⟩:=AG rd hp hT hA ps (qs++[p]) (by rw[hq];simp)
   have step:aL (aR AP.A) bp AP.f62L1 (ay [(0,x),(3,I (cat qs).length),(9,x),(10,I all.length),(11,I qs.length)] [0,3,9,10,11]) h=some (.normal,[(0,x),(3,I (cat (qs++[p])).length),(9,x),(10,I all.length),(11,I (qs++[p]).length)],h):=by
    generalize hB:(qs++[p]).length=B at *
    simp only[I]at *
    simp only[AP.f62L1,go_sem,R0 c1,p1,p3,ln,w1,RY c2,w2]
   exact⟨e',sN step q1,q2,q3⟩
theorem AH {h0 : H} {x : AV} {all : List (AV × List Int)} (rd : Rd h0 x (all.map (·.1))) (hp : ∀ p ∈ all, Rd h0 p.1 (ints p.2)) (hT : (cat all).length < 1000000000) (hA : all.length < 1000000000) (id : Nat) (hid : h0.next ≤ id) :
 ∀(ps qs:List (AV×List Int)) (h:H),all=qs++ps→h.floor≤id→h.get id=some (ints (cat qs)++List.replicate (cat ps).length (I 0))→(∀i c,h0.get i=some c→h.get i=some c)→
 ∃e' h',Lp AP.A [6,25,26,27] AP.f62L0 [(6,.aE id 0 (cat qs).length 1),(25,x),(26,I all.length),(27,I qs.length)] h=some (.exit 2,e',h')∧look e' 6=.aE id 0 (cat all).length 1∧h'.get id=some (ints (cat all))
 | [], qs, h, hq, hf, hg, hm => by
   rw[Sd]at hq;subst hq
   refine⟨[(6,.aE id 0 (cat all).length 1),(25,x),(26,I all.length),(27,I all.length),(28,.bool false)],h,sM ?_,rfl,by rw[hg];simp [cat]⟩
   have c1:¬(all.length:Int)<(all.length:Int):=by omega
   simp only[I]at *
   simp only[AP.f62L0,go_sem,RY c1]
 | p :: ps, qs, h, hq, hf, hg, hm => by
   have hlen:all.length=qs.length+(ps.length+1):=by rw[hq];simp
   have hct:(cat all).length=(cat qs).length+(p.2.length+(cat ps).length):=by rw[hq];simp [cat]
   have hcq:(cat (qs++[p])).length=(cat qs).length+p.2.length:=by simp [cat]
   have c1:(qs.length:Int)<(all.length:Int):=by omega
   have hv:(all.map (·.1))[qs.length]?=some p.1:=by rw[hq];simp
   obtain⟨a,p1,p2⟩:=rd.elem hv
   have p3:=p2 h hm
   have src:=((hp p (by rw[hq];simp)).mono hm).1
   rw[pk]at src
   have w2:IntKind.wrap .i64 ((qs.length:Int)+1)=((qs++[p]).length:Int):=by
    rw[uU];exact u4 (n:=qs.length+1) (by omega)
   have hz:List.replicate (cat (p::ps)).length (I 0)=List.replicate p.2.length (I 0)++List.replicate (cat ps).length (I 0):=by
    rw[List.replicate_append_replicate,FN,uU]
   have hap:∃h1,kg h 1 8 (.aE id 0 (cat qs).length 1) p.1=some (.aE id 0 (cat (qs++[p])).length 1,h1)∧h1.floor=h.floor∧h1.get id=some (ints (cat (qs++[p]))++List.replicate (cat ps).length (I 0))∧∀i c,h0.get i=some c→h1.get i=some c:=by
    by_cases h0':p.2.length=0
    · have hp2:p.2=[]:=List.length_eq_zero_iff.1 h0'
      refine⟨h, ?_,rfl, ?_,hm⟩
      · unfold kg
        rw[src,uv]
        unfold dD
        rw[if_pos (by simp [h0']),hcq,h0',Nat.add_zero]
      · rw[hg,FN,hp2];simp [cat,hp2]
    · refine⟨h.set id (ints (cat (qs++[p]))++List.replicate (cat ps).length (I 0)), ?_,by simp,by rw[H.de,if_pos rfl,hg];rfl,fun i c q=> ?_⟩
      · unfold kg
        rw[src,uv]
        have hs:setFrom (ints (cat qs)++List.replicate (cat (p::ps)).length (I 0)) (cat qs).length (ints p.2)=ints (cat (qs++[p]))++List.replicate (cat ps).length (I 0):=by
         have:=yn (List.replicate p.2.length (I 0)) (ints p.2) (ints (cat qs)) (List.replicate (cat ps).length (I 0)) (by simp)
         rw[pk]at this
         rw[hz,this];simp [cat,ph]
        unfold dD
        dsimp only
        rw[if_neg h0',if_neg (by simp [jv])]
        rw[if_pos ⟨rfl,hf⟩,hg,uv,if_pos (by rw[hz];simp)]
        rw[Nat.mul_one,uF,hs,hcq]
      · rw[H.de,if_neg (by have:=h0.lt _ _ q;omega)];exact hm i c q
   obtain⟨h1,ap1,ap2,ap3,ap4⟩:=hap
   obtain⟨e',h',q1,q2,q3⟩:=AH rd hp hT hA id hid ps (qs++[p]) h1 (by rw[hq];simp) (by rw[ap2];exact hf) ap3 ap4
   have step:aL (aR AP.A) bp AP.f62L0 (ay [(6,.aE id 0 (cat qs).length 1),(25,x),(26,I all.length),(27,I qs.length)] [6,25,26,27]) h=some (.normal,[(6,.aE id 0 (cat (qs++[p])).length 1),(25,x),(26,I all.length),(27,I (qs++[p]).length)],h1):=by
    generalize hB:(qs++[p]).length=B at *
    simp only[I]at *
    simp only[AP.f62L0,go_sem,R0 c1,p1,p3,ap1,w2]
   exact⟨e',h',sN step q1,q2,q3⟩
def vU (l:List Int):AV:=.aV false (ints l) 0 l.length 1
theorem xK (h:H) (l:List Int):Rd h (vU l) (ints l):=by
 refine⟨?_,by intro s e;cases e⟩
 simp [aS,vU,uP]
theorem CG (h:H) (x:AV) (ps:List (AV×List Int)) (rd:Rd h x (ps.map (·.1))) (hp:∀p∈ps,Rd h p.1 (ints p.2)) (hT:(cat ps).length<1000000000) (hA:ps.length<1000000000) (h0:0<(cat ps).length):aR AP.A 62 [x] h=some (vU (cat ps),h):=by
 have rd':=rd.mono (vm h)
 have hp':∀p∈ps,Rd h.dH p.1 (ints p.2):=fun p q=>(hp p q).mono (vm h)
 have ln:=rd.len
 rw[List.length_map]at ln
 obtain⟨e1,a1,a2,a3⟩:=AG rd' hp' hT hA ps [] rfl
 have a1':Lp AP.A [0,3,9,10,11] AP.f62L1 [(0,x),(3,I 0),(9,x),(10,I ps.length),(11,I 0)] h.dH=some (.exit 0,e1,h.dH):=a1
 clear a1
 have gc:=Oj h.dH (cat ps).length h0 hT
 obtain⟨h1,hh1⟩:∃g,g=h.dH.alloc (List.replicate (cat ps).length (I 0)):=⟨_,rfl⟩
 rw[←hh1]at gc
 obtain⟨e2,h2,b1,b2,b3⟩:=AH rd' hp' hT hA h.next (uy _) ps [] h1 rfl (by rw[hh1];simp) (by rw[hh1,H.aW,if_pos (show h.next=h.dH.next from rfl)];rfl)
  (fun i c q=>by rw[hh1,H.aW,if_neg (by have:=h.dH.lt _ _ q;omega)];exact q)
 have b1':Lp AP.A [6,25,26,27] AP.f62L0 [(6,.aE h.next 0 0 1),(25,x),(26,I ps.length),(27,I 0)] h1=some (.exit 2,e2,h2):=b1
 clear b1
 have hn:h.dH.next=h.next:=rfl
 refine tE (fn:=AP.f62) (h2:=h2) (e:=[(2,.aE h.next 0 (cat ps).length 1)]) (vs:=[.aE h.next 0 (cat ps).length 1]) rfl rfl rfl ?_ rfl ?_
 · simp only[I]at *
   simp only[AP.f62,go_sem,ln,rK,a1',a2,a3,gc,hn,b1',b2]
 · show snap h2.get h.next 16 true (.aE h.next 0 (cat ps).length 1)=_
   unfold snap
   rw[if_neg (by omega),b3,uv,if_pos (by simp)]
   have ht:((ints (cat ps)).drop 0).take ((cat ps).length* 1)=ints (cat ps):=by
    rw[Sf,Nat.mul_one,uP (by simp)]
   rw[ht,xz];rfl
def vA:List Int:=List.replicate 144 8++(List.replicate 112 9++(List.replicate 24 7++List.replicate 8 8))
theorem O2 (e:Env) (n:Int):aY e (.cx 1 1 [.int .i64 0] [(0,.c (.int .i64 n))])=some ([I n],fun i=>.aE i 0 1 1):=rfl
theorem zN (h:H) (n:Int):Rd (h.alloc [I n]) (.aE h.next 0 1 1) [I n]:=by
 refine⟨?_,by intro s e;cases e⟩
 simp [aS,H.aW]
theorem HZ (h:H):aR AP.A 42 [] h=some (vU vA,h):=by
 have r1:=yc (h.dH.alloc [I 8]) (.aE h.dH.next 0 1 1) 8 144 (by omega) (zN _ _)
 have r2:=yc ((h.dH.alloc [I 8]).alloc [I 9]) (.aE (h.dH.alloc [I 8]).next 0 1 1) 9 112 (by omega) (zN _ _)
 have r3:=yc (((h.dH.alloc [I 8]).alloc [I 9]).alloc [I 7]) (.aE ((h.dH.alloc [I 8]).alloc [I 9]).next 0 1 1) 7 24 (by omega) (zN _ _)
 have r4:=yc ((((h.dH.alloc [I 8]).alloc [I 9]).alloc [I 7]).alloc [I 8]) (.aE (((h.dH.alloc [I 8]).alloc [I 9]).alloc [I 7]).next 0 1 1) 8 8 (by omega) (zN _ _)
 obtain⟨g4,hg4⟩:∃g,g=(((h.dH.alloc [I 8]).alloc [I 9]).alloc [I 7]).alloc [I 8]:=⟨_,rfl⟩
 obtain⟨v1,hv1⟩:∃v,v=AV.aV false (ints (List.replicate 144 8)) 0 144 1:=⟨_,rfl⟩
 obtain⟨v2,hv2⟩:∃v,v=AV.aV false (ints (List.replicate 112 9)) 0 112 1:=⟨_,rfl⟩
 obtain⟨v3,hv3⟩:∃v,v=AV.aV false (ints (List.replicate 24 7)) 0 24 1:=⟨_,rfl⟩
 obtain⟨v4,hv4⟩:∃v,v=AV.aV false (ints (List.replicate 8 8)) 0 8 1:=⟨_,rfl⟩
 have hc:cat [(v1,List.replicate 144 8),(v2,List.replicate 112 9),(v3,List.replicate 24 7),(v4,List.replicate 8 8)]=vA:=by
  simp only[cat,vA,R1,List.flatMap_nil,Sd]
 have hfl:vA.length=288:=by simp only[vA,uU,R9]
 have cc:=CG (g4.alloc [v1,v2,v3,v4]) (.aE g4.next 0 4 1) [(v1,List.replicate 144 8),(v2,List.replicate 112 9),(v3,List.replicate 24 7),(v4,List.replicate 8 8)]
  ⟨by simp [aS,H.aW],by intro s e;cases e⟩
  (by
    intro p hp
    simp only[uR,List.not_mem_nil,or_false]at hp
    rcases hp with rfl|rfl|rfl|rfl
    · rw[hv1];exact xK _ _
    · rw[hv2];exact xK _ _
    · rw[hv3];exact xK _ _
    · rw[hv4];exact xK _ _) (by rw[hc,hfl];omega) (by simp) (by rw[hc,hfl];omega)
 rw[hc]at cc
 have bt:∀e:Env,look e 2=v1→look e 4=v2→look e 6=v3→look e 8=v4→aY e (.cx 1 4 [.aP] [(0,.t 2),(1,.t 4),(2,.t 6),(3,.t 8)])=some ([v1,v2,v3,v4],fun i=>.aE i 0 4 1):=by
  intro e q1 q2 q3 q4
  simp only[aY,R3,SA,rN,q1,q2,q3,q4]
  rw[hv1,hv2,hv3,hv4];rfl
 refine tE (fn:=AP.f42) (h2:=g4.alloc [v1,v2,v3,v4]) (e:=[(0,vU vA)]) rfl rfl rfl ?_ rfl ?_
 · rw[←hv1]at r1;rw[←hv2]at r2;rw[←hv3]at r3;rw[←hv4]at r4
   rw[←hg4]at r4
   have r1':aR AP.A 43 [.aE h.dH.next 0 1 1,I 144] (h.dH.alloc [I 8])=some (v1,h.dH.alloc [I 8]):=r1
   have r2':aR AP.A 43 [.aE (h.dH.alloc [I 8]).next 0 1 1,I 112] ((h.dH.alloc [I 8]).alloc [I 9])=some (v2,(h.dH.alloc [I 8]).alloc [I 9]):=r2
   have r3':aR AP.A 43 [.aE ((h.dH.alloc [I 8]).alloc [I 9]).next 0 1 1,I 24] (((h.dH.alloc [I 8]).alloc [I 9]).alloc [I 7])=some (v3,((h.dH.alloc [I 8]).alloc [I 9]).alloc [I 7]):=r3
   have r4':aR AP.A 43 [.aE (((h.dH.alloc [I 8]).alloc [I 9]).alloc [I 7]).next 0 1 1,I 8] g4=some (v4,g4):=r4
   clear r1 r2 r3 r4 hv1 hv2 hv3 hv4 hc
   simp only[I]at *
   simp only[AP.f42,go_sem,O2,I,r1',r2',r3',←hg4,r4']
   rw[bt _ rfl rfl rfl rfl]
   simp only[lV,rZ,go_sem,cc]
 · simp only[c9];unfold snap vU;rfl
def vn:List Int:=[16,17,18,0,8,7,9,6,10,5,11,4,12,3,13,2,14,1,15]
theorem H9 (h:H):aR AP.A 79 [] h=some (vU vn,h):=by
 have b:aY [] (.cx 1 19 [.int .i64 0] [(0,(.c (.int .i64 16))),(1,(.c (.int .i64 17))),(2,(.c (.int .i64 18))),(3,(.c (.int .i64 0))),(4,(.c (.int .i64 8))),(5,(.c (.int .i64 7))),(6,(.c (.int .i64 9))),(7,(.c (.int .i64 6))),(8,(.c (.int .i64 10))),(9,(.c (.int .i64 5))),(10,(.c (.int .i64 11))),(11,(.c (.int .i64 4))),(12,(.c (.int .i64 12))),(13,(.c (.int .i64 3))),(14,(.c (.int .i64 13))),(15,(.c (.int .i64 2))),(16,(.c (.int .i64 14))),(17,(.c (.int .i64 1))),(18,(.c (.int .i64 15)))])=some (ints vn,fun i=>.aE i 0 19 1):=rfl
 refine tE (fn:=AP.f79) (h2:=h.dH.alloc (ints vn)) (e:=[(0,.aE h.next 0 19 1)]) (vs:=[.aE h.next 0 19 1]) rfl rfl rfl ?_ rfl ?_
 · have hn:h.dH.next=h.next:=rfl
   simp only[AP.f79,go_sem,b,hn]
 · show snap (h.dH.alloc (ints vn)).get h.next 16 true (.aE h.next 0 19 1)=_
   unfold snap
   rw[if_neg (by omega),H.aW,if_pos (show h.next=h.dH.next from rfl),uv,if_pos (by decide)]
   rw[show((ints vn).drop 0).take (19* 1)=ints vn from rfl,xz];rfl
def JW (c:ae) (d:Option Nat) (r:List aj) (e:Env) (p:Option (AV×H)):Option (Env×H×List H):=p.bind fun q=>aN c r (aM d q.1 e) q.2
theorem EW (c:ae) (d:Option Nat) (r:List aj) (e:Env) (v:AV) (h:H):JW c d r e (some (v,h))=aN c r (aM d v e) h:=uo rfl rfl
def Je (aO:Bool) (h:H) (p:Option (Env×H×List H)):Option (Env×H×List H):=p.bind fun q=>some (q.1,q.2.1,if aO then h::q.2.2 else q.2.2)
theorem Fg (h:H) (e:Env) (h':H) (gs:List H):Je true h (some (e,h',gs))=some (e,h',h::gs):=uo rfl rfl
theorem Ff (h:H) (e:Env) (h':H) (gs:List H):Je false h (some (e,h',gs))=some (e,h',gs):=uo rfl rfl
theorem A6 (c:ae) (e:Env) (h:H):aN c [] e h=some (e,h,[h]):=uo rfl rfl
theorem Ep (c:ae) (o:aj) (r:List aj) (e:Env) (h:H):aN c (o::r) e h=Je o.op.aO h (JW c o.dst r e (ai c o e h)):=by
 rw[aN]
 unfold Je JW
 cases hv:ai c o e h with
 |none=>rfl
 | some q =>
   obtain⟨v,h'⟩:=q
   simp only[uv]
theorem E8 (c:ae) (d:Option Nat) (op:bS) (r:List aj) (e:Env) (h:H):aN c (⟨d,op,none⟩::r) e h=Je op.aO h (JW c d r e (ah c e h op)):=Ep _ _ _ _ _
theorem J9 (c:ae) (d:Option Nat) (op:bS) (g:Nat) (w:Bool) (r:List aj) (e:Env) (h:H):aN c (⟨d,op,some (g,w)⟩::r) e h=Je op.aO h (JW c d r e (kH w c e h op (look e g))):=Ep _ _ _ _ _
theorem Jq {c:ae} {l:bF} {e e':Env} {h h':H} {gs:List H} (ord:List Nat) (ops:List aj) (fl:List (Nat×List Nat)) (vP:List Nat) (h1:aN c ops e h=some (e',h',gs)) (h2:aZ c ops e' gs fl=true):aL c l (.iy ord ops fl vP) e h=some (.normal,ay e' vP,h'):=by
 rw[aL,h1,uv]
 dsimp only
 rw[if_pos h2]
theorem BG {c:ae} {ops:List aj} {e:Env} {gs:List H} {i:Nat} {ks:List Nat} {r:List (Nat×List Nat)} (h1:∀k∈ks,bD c ops e gs i k=true) (h2:aZ c ops e gs r=true):aZ c ops e gs ((i,ks)::r)=true:=by
 simp only[aZ,uz,List.all_eq_true]
 exact⟨h1,h2⟩
theorem BF {c:ae} {ops:List aj} {e:Env} {gs:List H} {i k:Nat} {o:aj} {g h':H} {d:Nat} {u:AV} (ho:ops[i]?=some o) (hg:gs[k]?=some g) (hb:o.op.aI=false) (hd:o.dst=some d) (hv:ai c o e g=some (u,h')) (hu:AV.beq u (look e d)=true):bD c ops e gs i k=true:=by
 unfold bD
 rw[ho,hg]
 dsimp only
 rw[hb]
 simp only[uw,uV,hd,RZ,hv]
 exact hu
theorem EN (k:IntKind) (n:Int):AV.beq (.int k n) (.int k n)=true:=by simp [AV.beq]
theorem Cu (i o l z:Nat):AV.beq (.aE i o l z) (.aE i o l z)=true:=by simp [AV.beq]
theorem FD (i o:Nat):AV.beq (.aD i o) (.aD i o)=true:=by simp [AV.beq]
theorem Ck (s:ByteArray):AV.beq (.str s) (.str s)=true:=by
 have:(s==s)=true:=by
  obtain⟨d⟩:=s
  show(d==d)=true
  exact beq_self_eq_true d
 simp [AV.beq,this]
theorem mZ.apps {h:H} {v:AV} {cs:List AV} (o:mZ h v cs) (hfn:h.floor≤h.next) {z:Nat} (bs:List AV) (hc:AV.aC bs=true) (hb:0<bs.length) (hr:roomy z (cs.length+bs.length)=true):
 ∃v' h',dD h 1 z v bs.length bs=some (v',h')∧mZ h' v' (cs++bs)∧h'.floor=h.floor∧h.next≤h'.next∧(∀i,v.id?≠some i→i≠h.next→h'.get i=h.get i)∧v'.id?=some h.next:=by
 have hne:bs≠[]:=by intro e;rw[e]at hb;simp at hb
 rcases o with ⟨rfl,rfl⟩|⟨id,rfl,hg,hf,hne'⟩
 · refine⟨.aE h.next 0 bs.length 1,h.alloc bs, ?_,.inr ⟨h.next,by simp,by simp [H.aW], ?_,by simpa using hne⟩,by simp,by simp,fun i _ hi=>by rw[H.aW,if_neg hi],rfl⟩
   · unfold dD
     rw[if_neg (by omega),if_neg (by simp [hc])]
     simp only[RX,uF]at hr
     simp only[hr,if_true]
   · simp;omega
 · refine⟨.aE h.next 0 (cs.length+bs.length) 1,(h.del id).alloc (cs++bs), ?_,.inr ⟨h.next,by simp,by simp [H.aW], ?_,by simp [hne]⟩,by simp,by simp,fun i h1 h2=> ?_,rfl⟩
   · unfold dD
     rw[if_neg (by omega),if_neg (by simp [hc])]
     simp only[hf,and_self,if_true,hg,uv]
     rw[if_neg (by omega),if_pos ⟨by omega,hr⟩]
     simp
   · have:=h.lt id cs hg;simp;omega
   · rw[H.aW,H.jf,if_neg h2,H.dK,if_neg]
     intro e;subst e;exact h1 rfl
theorem St.vP {c:SC} {S:SS} {h h':H} {ov:AV} (st:St c S h ov) (hf:h'.floor=h.floor) (hn:h.next≤h'.next) (hg:∀i,i=c.s∨i=c.r∨ov.id?=some i→h'.get i=h.get i):St c S h' ov:=by
 refine⟨by rw[hg _ (.inl rfl)];exact st.gs,by rw[hg _ (.inr (.inl rfl))];exact st.gr,st.own.mono hf fun i hi=>hg i (.inr (.inr hi)),st.sr,by rw[hf];exact st.fs,by rw[hf];exact st.fr,st.os,st.or,by rw[hf];exact uS st.nx hn,st.sz,st.yy,st.ol,st.ml⟩
theorem St.lt {c:SC} {S:SS} {h:H} {ov:AV} (st:St c S h ov) {i:Nat} (hi:i=c.s∨i=c.r∨ov.id?=some i):i<h.next:=by
 rcases hi with rfl|rfl|hi
 · exact h.lt _ _ st.gs
 · exact h.lt _ _ st.gr
 · exact st.own.lt hi
theorem St.alloc {c:SC} {S:SS} {h:H} {ov:AV} (st:St c S h ov) (cs:List AV):St c S (h.alloc cs) ov∧Fr c h ov (h.alloc cs) ov:=by
 refine⟨st.vP (by simp) (by simp) fun i hi=> ?_,⟨by simp,by simp,fun id h1 _ _ _=> ?_,fun _ q=>.inl q⟩⟩
 · have:=st.lt hi;rw[H.aW,if_neg (by omega)]
 · rw[H.aW,if_neg (by omega)]
def we (c:SC) (y:Int) (acc:List Int) (S:SS):(Int×Nat)×SS:=
 if y=16 then(if acc=[]then((0,0),vz 700 S)else((acc.getD (acc.length-1) 0,3+(u5 c 2 S).1),(u5 c 2 S).2))
 else if y=17 then((0,3+(u5 c 3 S).1),(u5 c 3 S).2)
 else if y=18 then((0,11+(u5 c 7 S).1),(u5 c 7 S).2)
 else((y,1),S)
theorem zI (c:SC) (S:SS) (n:Nat) (hn:n≤16):(u5 c n S).1<65536:=by
 unfold u5;split
 · have:=wE c.text S.at_ n
   have:=Sc (show 0<2 by omega) hn
   simp at *;omega
 · simp
theorem D8 {l:List Int} {i:Nat} (h:i<l.length):(ints l)[i]?=some (I (l.getD i 0)):=sq (by simp [List.getD,h])
theorem KX {c : SC} {S : SS} {h : H} {ov : AV} (st : St c S h ov) (y : Int) {av : AV} {acc : List Int} (oa : mZ h av (ints acc)) (ha : acc.length < 100000) (hne : ∀ i, av.id? = some i → i ≠ c.s ∧ i ≠ c.r ∧ ov.id? ≠ some i) :
 ∃h',aR AP.A 80 [.aD c.s 0,I y,av] h=some (.bK [I (we c y acc S).1.1,I (we c y acc S).1.2],h')∧St c (we c y acc S).2 h' ov∧Fr c h ov h' ov:=by
 have ln:=oa.len
 rw[pk]at ln
 by_cases h16:y=16
 · have d16:=tL h16
   by_cases hnil:acc=[]
   · obtain⟨h',k1,k2,k3⟩:=xg st 700
     have e:we c y acc S=((0,0),vz 700 S):=by rw[we,if_pos h16,if_pos hnil]
     rw[e]
     refine⟨h', ?_,k2,k3⟩
     have hz:((acc.length:Int)==0)=true:=by rw[hnil];rfl
     refine s7 (fn:=AP.f80) (e:=[(6,I 0),(7,I 0)]) rfl rfl rfl ?_ rfl
     simp only[I]at *
     simp only[AP.f80,go_sem,d16,ln,hz,k1]
   · obtain⟨h',k1,k2,k3⟩:=yC st 2 2 rfl (by omega)
     have e:we c y acc S=((acc.getD (acc.length-1) 0,3+(u5 c 2 S).1),(u5 c 2 S).2):=by rw[we,if_pos h16,if_neg hnil]
     rw[e]
     have hpos:0<acc.length:=List.length_pos_iff.2 hnil
     have hz:((acc.length:Int)==0)=false:=tK (by omega)
     have hg:=zI c S 2 (by omega)
     have w1:IntKind.wrap .i64 (3+((u5 c 2 S).1:Int))=((3+(u5 c 2 S).1:Nat):Int):=by
      rw[show(3:Int)+((u5 c 2 S).1:Int)=((3+(u5 c 2 S).1:Nat):Int)by omega];exact u4 (by omega)
     have w2:IntKind.wrap .i64 ((acc.length:Int)-1)=((acc.length-1:Nat):Int):=by
      rw[show(acc.length:Int)-1=((acc.length-1:Nat):Int)by omega];exact u4 (by omega)
     have hel:=D8 (l:=acc) (i:=acc.length-1) (by omega)
     obtain⟨id,i1,i2,i3⟩:=oa.elem hel
     have hid:=hne id (by rw[i1];rfl)
     have i4:h'.get id=some (ints acc):=by rw[k3.GZ id (h.lt _ _ i3) hid.1 hid.2.1 hid.2.2];exact i3
     refine⟨h', ?_,k2,k3⟩
     refine s7 (fn:=AP.f80) (e:=[(6,I (acc.getD (acc.length-1) 0)),(7,I (3+(u5 c 2 S).1:Nat))]) rfl rfl rfl ?_ rfl
     generalize (u5 c 2 S).1=G at *
     clear i1
     simp only[I]at *
     simp only[AP.f80,go_sem,d16,ln,hz]
     rw[Jq (e':=[(7,.int .i64 ((3+G:Nat):Int)),(6,.int .i64 (acc.getD (acc.length-1) 0)),(24,.int .i64 ((3+G:Nat):Int)),(23,.int .i64 G),(22,.aD c.s 0),(21,.int .i64 (acc.getD (acc.length-1) 0)),(20,.aD id (acc.length-1)),(19,.int .i64 (acc.length-1:Nat)),(18,.int .i64 acc.length),(17,av),(16,av),(0,.aD c.s 0),(2,av)]) (h':=h') (gs:=[h,h'])]
     · simp only[go_sem]
     · simp only[A6,E8,EW,Fg,Ff,bS.aO,go_sem,ln,w2,i2,i3,hel,k1,w1]
     · refine BG (fun k hk=> ?_) rfl
       obtain rfl:k=1:=by simpa using hk
       refine BF (o:=⟨some 21,.load false 1 (.t 20),none⟩) (g:=h') (h':=h') (d:=21) (u:=.int .i64 (acc.getD (acc.length-1) 0)) rfl rfl rfl rfl ?_ ?_
       · simp only[ai,go_sem,i4,hel]
       · simp only[go_sem,EN]
 · have d16:=tK h16
   by_cases h17:y=17
   · have d17:=tL h17
     obtain⟨h',k1,k2,k3⟩:=yC st 3 3 rfl (by omega)
     have e:we c y acc S=((0,3+(u5 c 3 S).1),(u5 c 3 S).2):=by rw[we,if_neg h16,if_pos h17]
     rw[e]
     have hg:=zI c S 3 (by omega)
     have w1:IntKind.wrap .i64 (3+((u5 c 3 S).1:Int))=((3+(u5 c 3 S).1:Nat):Int):=by
      rw[show(3:Int)+((u5 c 3 S).1:Int)=((3+(u5 c 3 S).1:Nat):Int)by omega];exact u4 (by omega)
     refine⟨h', ?_,k2,k3⟩
     refine s7 (fn:=AP.f80) (e:=[(6,I 0),(7,I (3+(u5 c 3 S).1:Nat))]) rfl rfl rfl ?_ rfl
     simp only[I]at *
     simp only[AP.f80,go_sem,d16,d17,k1,w1]
   · have d17:=tK h17
     by_cases h18:y=18
     · have d18:=tL h18
       obtain⟨h',k1,k2,k3⟩:=yC st 7 7 rfl (by omega)
       have e:we c y acc S=((0,11+(u5 c 7 S).1),(u5 c 7 S).2):=by rw[we,if_neg h16,if_neg h17,if_pos h18]
       rw[e]
       have hg:=zI c S 7 (by omega)
       have w1:IntKind.wrap .i64 (11+((u5 c 7 S).1:Int))=((11+(u5 c 7 S).1:Nat):Int):=by
        rw[show(11:Int)+((u5 c 7 S).1:Int)=((11+(u5 c 7 S).1:Nat):Int)by omega];exact u4 (by omega)
       refine⟨h', ?_,k2,k3⟩
       refine s7 (fn:=AP.f80) (e:=[(6,I 0),(7,I (11+(u5 c 7 S).1:Nat))]) rfl rfl rfl ?_ rfl
       simp only[I]at *
       simp only[AP.f80,go_sem,d16,d17,d18,k1,w1]
     · have d18:=tK h18
       have e:we c y acc S=((y,1),S):=by rw[we,if_neg h16,if_neg h17,if_neg h18]
       rw[e]
       refine⟨h, ?_,st,Fr.refl _ _ _⟩
       refine s7 (fn:=AP.f80) (e:=[(6,I y),(7,I 1)]) rfl rfl rfl ?_ rfl
       simp only[I]at *
       simp only[AP.f80,go_sem,d16,d17,d18]
def BA (t:ByteArray):List Int→Nat→List Int→List Int
 |[],_,o=>o
 |s::r,p,o=>BA t r (p+3) (o.set s.toNat (u0 t p 3))
def wz (t:ByteArray) (y:Int) (acc:List Int) (p:Nat):Option (Int×Nat×Nat):=
 if y=16 then(if acc=[]then none else if p+2≤8* t.size then some (acc.getD (acc.length-1) 0,3+u0 t p 2,p+2)else none)
 else if y=17 then(if p+3≤8* t.size then some (0,3+u0 t p 3,p+3)else none)
 else if y=18 then(if p+7≤8* t.size then some (0,11+u0 t p 7,p+7)else none)
 else some (y,1,p)
def vM (t : ByteArray) (cl : List Int) (many : Nat) : Nat → List Int → Nat → Option (List Int × Nat)
 |0,_,_=>none
 | f + 1, acc, p => if acc.length < many then
     match wY t cl 15 1 0 p with
     |none=>none
     | some (y, p1) => match wz t y acc p1 with
       |none=>none
       |some (n,times,p2)=>vM t cl many f (acc++List.replicate times n) p2
   else if many<acc.length then none else some (acc,p)
def xb (t : ByteArray) (many : Nat) (p : Nat) : Option (List Int × Nat) :=
 if p+4≤8* t.size then
  let k:=u0 t p 4+4
  if p+4+3* k≤8* t.size then
   let cl:=BA t (vn.take k) (p+4) (List.replicate 19 0)
   if vp cl=0 then vM t cl many (8* t.size+1) [] (p+4+3* k)else none
  else none
 else none
theorem G6 {h:H} {t:Bool} {N k:Nat} {cs:List AV} (hN:cs.length=N) (hk:k≤N):rF h 1 (.aV t cs 0 N 1) none (some (I k)) none=some (.aV t cs 0 k 1):=by
 simp [rF,hN,aB,Ko hk]
theorem Ej:∀s∈vn,0≤s∧s<19:=by decide
def zw (c:SC):List Int→List Int→SS→List Int×SS
 |[],o,S=>(o,S)
 |s::r,o,S=>zw c r (o.set s.toNat ((u5 c 3 S).1:Nat)) (u5 c 3 S).2
theorem Gu (c:SC):∀(r o:List Int) (S:SS),(zw c r o S).1.length=o.length
 |[],o,S=>rfl
 |s::r,o,S=>by rw[zw,Gu c r];simp
theorem Ia (c : SC) : ∀ (r o : List Int) (S : SS), (∀ y ∈ o, 0 ≤ y ∧ y < 16) → ∀ y ∈ (zw c r o S).1, 0 ≤ y ∧ y < 16
 |[],o,S,h=>h
 | s :: r, o, S, h => by
   rw[zw]
   refine Ia c r _ _ fun y hy=> ?_
   rcases Sq hy with q|q
   · exact h y q
   · subst q
     have:(u5 c 3 S).1<8:=by
      unfold u5;split
      · simpa using wE c.text S.at_ 3
      · simp
     omega
theorem Ib (c:SC):∀(r o:List Int) (S:SS),S.e=0→S.at_+3* r.length≤8* c.text.size→zw c r o S=(BA c.text r S.at_ o,{S with at_:=S.at_+3* r.length})
 |[],o,S,he,h=>rfl
 | s :: r, o, S, he, h => by
   rw[RU]at h
   have eg:u5 c 3 S=(u0 c.text S.at_ 3,{S with at_:=S.at_+3}):=by rw[u5,if_pos (by omega)]
   rw[zw,eg]
   dsimp only
   rw[Ib c r _ {S with at_:=S.at_+3} he (by dsimp only;omega)]
   simp only[BA,RU]
   rw[show S.at_+3+3* r.length=S.at_+3* (r.length+1)by omega]
theorem JS (c:SC) (n:Nat) (S:SS) (h:S.e=0∨S.e=700):(u5 c n S).2.e=0∨(u5 c n S).2.e=700:=by
 unfold u5;split
 · exact h
 · rcases h with h|h<;>simp [vz,h]
theorem Lm (c:SC) (n:Nat) (S:SS) (h:S.e=700):(u5 c n S).2.e=700:=by
 unfold u5;split
 · exact h
 · simp [vz,h]
theorem Fa (c:SC):∀(r o:List Int) (S:SS),S.e=700→(zw c r o S).2.e=700
 |[],o,S,h=>h
 |s::r,o,S,h=>by rw[zw];exact Fa c r _ _ (Lm c 3 S h)
theorem Gt (c:SC):∀(r o:List Int) (S:SS),S.e=0→S.at_≤8* c.text.size→8* c.text.size<S.at_+3* r.length→(zw c r o S).2.e=700
 |[],o,S,he,hle,h=>by simp at h;omega
 | s :: r, o, S, he, hle, h => by
   rw[zw]
   rw[RU]at h
   by_cases hp:S.at_+3≤8* c.text.size
   · have eg:u5 c 3 S=(u0 c.text S.at_ 3,{S with at_:=S.at_+3}):=by rw[u5,if_pos hp]
     rw[eg]
     exact Gt c r _ _ he hp (by dsimp only;omega)
   · have eg:u5 c 3 S=(0,{S with e:=700}):=by rw[u5,if_neg hp,vz,if_pos he]
     rw[eg]
     exact Fa c r _ _ rfl
theorem Gv {c:SC} (a:Nat) (x:AV) (xs:List Int) (hxs:∀s∈xs,0≤s∧s<19) (hxl:xs.length≤19) (hac:a≠c.s∧a≠c.r) (m:AV):∀(q p o:List Int) (S:SS) (h:H) (ov:AV),xs=p++q→Rd h x (ints xs)→(∀i,x.id?≠some i)→St c S h ov→ov.id?≠some a→h.get a=some (ints o)→o.length=19→h.floor≤a→
 ∃ e' h', Lp AP.A [0, 1, 5, 18, 19, 20] AP.f64L1 [(0, .aD c.s 0), (1, m), (5, .aD a 0), (18, x), (19, I xs.length), (20, I p.length)] h = some (.exit 0, e', h') ∧ look e' 0 = .aD c.s 0 ∧ look e' 1 = m ∧ look e' 5 = .aD a 0 ∧
   St c (zw c q o S).2 h' ov∧h'.get a=some (ints (zw c q o S).1)∧h'.floor=h.floor∧h.next≤h'.next∧∀i,i<h.next→i≠c.s→i≠c.r→ov.id?≠some i→i≠a→h'.get i=h.get i
 | [], p, o, S, h, ov, hp, rd, hx, st, hoa, hg, ho, hf => by
   rw[Sd]at hp;subst hp
   refine⟨[(0,.aD c.s 0),(1,m),(5,.aD a 0),(18,x),(19,I xs.length),(20,I xs.length),(21,.bool false)],h,sM ?_,rfl,rfl,rfl,st,hg,rfl,uy _,fun _ _ _ _ _ _=>rfl⟩
   have c1:¬(xs.length:Int)<(xs.length:Int):=by omega
   simp only[I]at *
   simp only[AP.f64L1,go_sem,RY c1]
 | s :: q, p, o, S, h, ov, hp, rd, hx, st, hoa, hg, ho, hf => by
   have hlen:xs.length=p.length+(q.length+1):=by rw[hp];simp
   have c1:(p.length:Int)<(xs.length:Int):=by omega
   have hs:=hxs s (by rw[hp];simp)
   obtain⟨sn,hsn⟩:∃n:Nat,s=n:=R2 hs.1
   subst hsn
   have hv:(ints xs)[p.length]?=some (I sn):=sq (by rw[hp];simp)
   obtain⟨ad,p1,p2⟩:=rd.elem hv
   have p3:=p2 h (fun _ _ q=>q)
   obtain⟨h1,k1,k2,k3⟩:=yC st 3 3 rfl (by omega)
   have hal:a<h.next:=h.lt _ _ hg
   have hg1:h1.get a=some (ints o):=by rw[k3.GZ a hal hac.1 hac.2 hoa];exact hg
   have a1:cH (I sn) 19=some sn:=jY (by omega)
   have hset:(ints o).set sn (I ((u5 c 3 S).1:Nat))=ints (o.set sn ((u5 c 3 S).1:Nat)):=by simp [ints,List.map_set]
   have hst:tG h1 a sn 1 [I ((u5 c 3 S).1:Nat)] (some (ints o))=some (h1.set a (ints (o.set sn ((u5 c 3 S).1:Nat)))):=by
    rw[tX (by rw[k3.fl];exact hf) (by rw[pk];omega) rfl,hset]
   have w2:IntKind.wrap .i64 ((p.length:Int)+1)=(((p++[(sn:Int)]).length:Nat):Int):=by
    rw[uU];exact u4 (n:=p.length+1) (by omega)
   have step:aL (aR AP.A) bp AP.f64L1 (ay [(0,.aD c.s 0),(1,m),(5,.aD a 0),(18,x),(19,I xs.length),(20,I p.length)] [0,1,5,18,19,20]) h=some (.normal,[(0,.aD c.s 0),(1,m),(5,.aD a 0),(18,x),(19,I xs.length),(20,I (p++[(sn:Int)]).length)],h1.set a (ints (o.set sn ((u5 c 3 S).1:Nat)))):=by
    generalize ints (o.set sn ((u5 c 3 S).1:Nat))=W at *
    generalize (p++[(sn:Int)]).length=B at *
    generalize (u5 c 3 S).1=G at *
    generalize ints o=OO at *
    simp only[I]at *
    simp only[AP.f64L1,go_sem,R0 c1,p1,p3,k1,a1,hg1,hst,w2]
   have st2:St c (u5 c 3 S).2 (h1.set a (ints (o.set sn ((u5 c 3 S).1:Nat)))) ov:=k2.vP (by simp) (by simp) fun i hi=>by
    rw[H.de,if_neg]
    rintro rfl
    rcases hi with hi|hi|hi
    · exact hac.1 hi
    · exact hac.2 hi
    · exact hoa hi
   have rd2:Rd (h1.set a (ints (o.set sn ((u5 c 3 S).1:Nat)))) x (ints xs):=by
    refine⟨?_,rd.2⟩
    have:=rd.1
    unfold aS at this ⊢
    split at this
    · exact this
    · exact this
    · exact absurd rfl (hx _)
    · exact this
    · cases this
   obtain⟨e',h',q1,q2,q3,q4,q5,q6,q7,q8,q9⟩:=Gv a x xs hxs hxl hac m q (p++[(sn:Int)]) (o.set sn ((u5 c 3 S).1:Nat)) _ _ ov (by rw[hp];simp) rd2 hx st2 hoa (by rw[H.de,if_pos rfl,hg1];rfl) (by simpa using ho) (by simp [k3.fl];exact hf)
   refine⟨e',h',sN step q1,q2,q3,q4, ?_, ?_,by rw[q7];simp [k3.fl],by have:=k3.nx;simp at q8;omega,fun i i1 i2 i3 i4 i5=> ?_⟩
   · rw[zw];exact q5
   · rw[zw];exact q6
   · rw[q9 i (by have:=k3.nx;simp;omega) i2 i3 i4 i5,H.de,if_neg i5,k3.GZ i i1 i2 i3 i4]
theorem xS {c:SC} {S:SS} {h:H} {ov:AV} (st:St c S h ov) (b:AV) (many:Nat) {av:AV} {acc:List Int} (oa:mZ h av (ints acc)) (hs:many≤acc.length∨(acc.length<many∧S.e≠0)):
 ∃e',Lp AP.A [0,1,9,10] AP.f64L0 [(0,.aD c.s 0),(1,I many),(9,b),(10,av)] h=some (.exit 2,e',h)∧look e' 0=.aD c.s 0∧look e' 1=I many∧look e' 10=av:=by
 have gs:=st.gs
 have ln:=oa.len
 rw[pk]at ln
 refine⟨[(0,.aD c.s 0),(1,I many),(9,b),(10,av),(46,.bool false)],sM ?_,rfl,rfl,rfl⟩
 rcases hs with hs|⟨hs,he⟩
 · have c1:¬(acc.length:Int)<many:=by omega
   simp only[I]at *
   simp only[AP.f64L0,go_sem,ln,RY c1]
 · have c1:(acc.length:Int)<many:=by omega
   have c2:=tK he
   simp only[I]at *
   simp only[AP.f64L0,go_sem,ln,R0 c1,gs,c2]
theorem Iz {c : SC} {S : SS} {y : Int} {acc : List Int} (he : S.e = 0) :
 match wz c.text y acc S.at_ with
 |some (n,times,p)=>we c y acc S=((n,times),{S with at_:=p})∧S.at_≤p
 |none=>(we c y acc S).2.e=700:=by
 unfold wz we
 by_cases h16:y=16
 · rw[if_pos h16,if_pos h16]
   by_cases hn:acc=[]
   · rw[if_pos hn,if_pos hn];simp [vz,he]
   · rw[if_neg hn,if_neg hn]
     by_cases hp:S.at_+2≤8* c.text.size
     · simp [u5,hp]
     · simp [u5,hp,vz,he]
 · rw [if_neg h16, if_neg h16]
   by_cases h17:y=17
   · rw[if_pos h17,if_pos h17]
     by_cases hp:S.at_+3≤8* c.text.size
     · simp [u5,hp]
     · simp [u5,hp,vz,he]
   · rw[if_neg h17,if_neg h17]
     by_cases h18:y=18
     · rw[if_pos h18,if_pos h18]
       by_cases hp:S.at_+7≤8* c.text.size
       · simp [u5,hp]
       · simp [u5,hp,vz,he]
     · rw[if_neg h18,if_neg h18]
       exact⟨rfl,uy _⟩
theorem EI (c:SC) (y:Int) (acc:List Int) (S:SS):(we c y acc S).1.2<70000:=by
 unfold we
 have h2:=zI c S 2 (by omega)
 have h3:=zI c S 3 (by omega)
 have h7:=zI c S 7 (by omega)
 repeat' split
 all_goals (dsimp only;omega)
theorem Ee {c : SC} (h0 : H) (cl : List Int) (hcl : cl.length < 100000) (many : Nat) (hm : many ≤ 400) : ∀ (f : Nat) (acc : List Int) (S : SS) (h : H) (ov av : AV), St c S h ov → S.e = 0 → 8 * c.text.size < S.at_ + f → Fr c h0 ov h ov → mZ h av (ints acc) → acc.length < 80000 → (∀ i, av.id? = some i → h0.next ≤ i) → (∀ i, (i = c.s ∨ i = c.r ∨ ov.id? = some i) → i < h0.next) →
 ∃ e' h' S' av' acc', Lp AP.A [0, 1, 9, 10] AP.f64L0 [(0, .aD c.s 0), (1, I many), (9, vu cl), (10, av)] h = some (.exit 2, e', h') ∧ look e' 0 = .aD c.s 0 ∧ look e' 1 = I many ∧ look e' 10 = av' ∧ St c S' h' ov ∧ Fr c h0 ov h' ov ∧ mZ h' av' (ints acc') ∧ acc'.length < 200000 ∧ (∀ i, av'.id? = some i → h0.next ≤ i) ∧
   match vM c.text cl many f acc S.at_ with
   |some (L,p)=>S'={S with at_:=p}∧acc'=L∧L.length=many
   |none=>S'.e=700∨(S'.e=0∧many<acc'.length)
 |0,acc,S,h,ov,av,st,he,hk,fr,oa,hal,hid,hlo=>by have:=st.yy;omega
 | f + 1, acc, S, h, ov, av, st, he, hk, fr, oa, hal, hid, hlo => by
   by_cases hlt:acc.length<many
   · rw [vM, if_pos hlt]
     have gs:=st.gs
     have ln:=oa.len
     rw[pk]at ln
     have c1:(acc.length:Int)<many:=by omega
     obtain⟨h1,S1,y,s1,s2,s3,s4⟩:=Dw cl hcl st he
     have hneq:∀i,av.id?=some i→i≠c.s∧i≠c.r∧ov.id?≠some i:=fun i hi=>by
      have:=hid i hi
      refine⟨fun e=> ?_,fun e=> ?_,fun e=> ?_⟩
      · have:=hlo i (.inl e);omega
      · have:=hlo i (.inr (.inl e));omega
      · have:=hlo i (.inr (.inr e));omega
     have oa1:mZ h1 av (ints acc):=oa.mono s3.fl fun i hi=>s3.GZ i (oa.lt hi) (hneq i hi).1 (hneq i hi).2.1 (hneq i hi).2.2
     obtain⟨h2,r1,r2,r3⟩:=KX s2 y oa1 (by omega) hneq
     have oa2:mZ h2 av (ints acc):=oa1.mono r3.fl fun i hi=>r3.GZ i (oa1.lt hi) (hneq i hi).1 (hneq i hi).2.1 (hneq i hi).2.2
     obtain⟨n,hn⟩:∃n,n=(we c y acc S1).1.1:=⟨_,rfl⟩
     obtain⟨times,htm⟩:∃n,n=(we c y acc S1).1.2:=⟨_,rfl⟩
     obtain⟨S2,hS2⟩:∃n,n=(we c y acc S1).2:=⟨_,rfl⟩
     have htb:=EI c y acc S1
     rw[←hn,←htm]at r1;rw[←hS2]at r2;rw[←htm]at htb
     have al:=r2.alloc [I n]
     have rp:=yc (h2.alloc [I n]) (.aE h2.next 0 1 1) n times (by omega) (zN _ _)
     have oa3:mZ (h2.alloc [I n]) av (ints acc):=oa2.mono (by simp) fun i hi=>by
      have:=oa2.lt hi;rw[H.aW,if_neg (by omega)]
     have hfr3:=((fr.trans s3).trans r3).trans al.2
     have hap:∃v' h3,kg (h2.alloc [I n]) 1 8 av (.aV false (ints (List.replicate times n)) 0 times 1)=some (v',h3)∧mZ h3 v' (ints (acc++List.replicate times n))∧St c S2 h3 ov∧Fr c h0 ov h3 ov∧∀i,v'.id?=some i→h0.next≤i:=by
      have src:aS (h2.alloc [I n]) 1 (.aV false (ints (List.replicate times n)) 0 times 1)=some (times,ints (List.replicate times n)):=by
       simp [aS,uP]
      by_cases ht0:times=0
      · subst ht0
        refine⟨av,h2.alloc [I n], ?_,by simpa using oa3,al.1,hfr3,hid⟩
        unfold kg
        rw[src,uv]
        unfold dD
        rw[if_pos rfl]
        rcases oa3 with ⟨rfl,_⟩|⟨id,rfl,_⟩<;>rfl
      · have hnx:=al.1.nx
        obtain⟨v',h3,q1,q2,q3,q4,q5,q6⟩:=oa3.apps hnx (z:=8) (ints (List.replicate times n)) (jv _) (by simp;omega) (by simp [roomy];omega)
        refine⟨v',h3, ?_,by rw[ph];exact q2,al.1.vP q3 q4 fun i hi=> ?_,⟨q3.trans hfr3.fl,uS hfr3.nx q4,fun id i1 i2 i3 i4=> ?_,fun i hi=>.inl hi⟩,fun i hi=> ?_⟩
        · unfold kg
          rw[src,uv]
          have hl:(ints (List.replicate times n)).length=times:=by simp
          rw[hl]at q1;exact q1
        · have hlt0:=hlo i hi
          have hle:h0.next≤(h2.alloc [I n]).next:=hfr3.nx
          exact q5 i (fun e=>by have:=hid i e;omega) (by omega)
        · have hle:h0.next≤(h2.alloc [I n]).next:=hfr3.nx
          rw[q5 id (fun e=>by have:=hid id e;omega) (by omega)]
          exact hfr3.GZ id i1 i2 i3 i4
        · rw[q6]at hi;cases hi;exact hfr3.nx
     obtain⟨v',h3,ap1,ap2,ap3,ap4,ap5⟩:=hap
     have step:aL (aR AP.A) bp AP.f64L0 (ay [(0,.aD c.s 0),(1,I many),(9,vu cl),(10,av)] [0,1,9,10]) h=some (.normal,[(0,.aD c.s 0),(1,I many),(9,vu cl),(10,v')],h3):=by
      have bs:∀(e:Env),look e 57=.int .i64 n→aY e (.cx 1 1 [.int .i64 0] [(0,.t 57)])=some ([.int .i64 n],fun i=>.aE i 0 1 1):=by
       intro e q
       simp only[aY,R3,SA,rN,q];rfl
      simp only[I]at *
      simp only[AP.f64L0,go_sem,ln,R0 c1,gs,he,s1,r1]
      rw[bs _ rfl]
      simp only[go_sem,rp,ap1]
     have hacc':(acc++List.replicate times n).length<80000:=by simp;omega
     cases hz:wY c.text cl 15 1 0 S.at_ with
     | none =>
       rw[hz]at s4
       obtain⟨s4,s5⟩:=s4
       have hy:y=256:=s5
       have hag:we c y acc S1=((y,1),S1):=by rw[we,if_neg (by omega),if_neg (by omega),if_neg (by omega)]
       have hS2e:S2.e=700:=by rw[hS2,hag];exact s4
       dsimp only
       by_cases hlt2:(acc++List.replicate times n).length<many
       · obtain⟨e',q1,q2,q3,q4⟩:=xS ap3 (vu cl) many ap2 (.inr ⟨hlt2,by rw[hS2e];decide⟩)
         exact⟨e',h3,S2,v',_,sN step q1,q2,q3,q4,ap3,ap4,ap2,by omega,ap5,.inl hS2e⟩
       · obtain⟨e',q1,q2,q3,q4⟩:=xS ap3 (vu cl) many ap2 (.inl (by omega))
         exact⟨e',h3,S2,v',_,sN step q1,q2,q3,q4,ap3,ap4,ap2,by omega,ap5,.inl hS2e⟩
     | some yp =>
       obtain⟨z,p1⟩:=yp
       rw[hz]at s4
       obtain⟨s4,s5⟩:=s4
       subst s5 s4
       have zb:=wO hz
       have hok:=Iz (c:=c) (S:={S with at_:=p1}) (y:=y) (acc:=acc) he
       dsimp only at hok ⊢
       cases ha:wz c.text y acc p1 with
       | none =>
         rw[ha]at hok
         have hS2e:S2.e=700:=by rw[hS2];exact hok
         dsimp only
         by_cases hlt2:(acc++List.replicate times n).length<many
         · obtain⟨e',q1,q2,q3,q4⟩:=xS ap3 (vu cl) many ap2 (.inr ⟨hlt2,by rw[hS2e];decide⟩)
           exact⟨e',h3,S2,v',_,sN step q1,q2,q3,q4,ap3,ap4,ap2,by omega,ap5,.inl hS2e⟩
         · obtain⟨e',q1,q2,q3,q4⟩:=xS ap3 (vu cl) many ap2 (.inl (by omega))
           exact⟨e',h3,S2,v',_,sN step q1,q2,q3,q4,ap3,ap4,ap2,by omega,ap5,.inl hS2e⟩
       | some q =>
         obtain⟨n2,t2,p2⟩:=q
         rw[ha]at hok
         obtain⟨hok,hp12⟩:=hok
         rw[hok]at hn htm hS2
         dsimp only at hn htm hS2
         subst hn htm hS2
         obtain⟨e',h',S',av',acc',q1,q2,q3,q4,q5,q6,q7,q8,q9,q10⟩:=Ee h0 cl hcl many hm f (acc++List.replicate times n) _ h3 ov v' ap3 he (by dsimp only;omega) ap4 ap2 hacc' ap5 hlo
         exact⟨e',h',S',av',acc',sN step q1,q2,q3,q4,q5,q6,q7,q8,q9,q10⟩
   · obtain⟨e',q1,q2,q3,q4⟩:=xS st (vu cl) many oa (.inl (by omega))
     refine⟨e',h,S,av,acc,q1,q2,q3,q4,st,fr,oa,by omega,hid, ?_⟩
     rw[vM,if_neg hlt]
     by_cases hgt:many<acc.length
     · rw[if_pos hgt];exact .inr ⟨he,hgt⟩
     · rw[if_neg hgt];exact⟨rfl,rfl,by omega⟩
theorem I3 {c : SC} {S : SS} {h : H} {ov : AV} (st : St c S h ov) (he : S.e = 0) (many : Nat) (hm0 : 0 < many) (hm : many ≤ 400) :
 ∃ h' S' av acc, aR AP.A 64 [.aD c.s 0, I many] h = some (av, h') ∧ St c S' h' ov ∧ Fr c h ov h' ov ∧ mZ h' av (ints acc) ∧ (∀ i, av.id? = some i → h.next ≤ i) ∧ match xb c.text many S.at_ with
   |some (L,p)=>S'={S with at_:=p}∧acc=L∧L.length=many
   |none=>S'.e=700:=by
 have gs:=st.gs
 obtain⟨a,ha⟩:∃a,a=h.next:=⟨_,rfl⟩
 obtain⟨g0,hg0⟩:∃g,g=h.alloc (ints (List.replicate 19 0)):=⟨_,rfl⟩
 have al:=st.alloc (ints (List.replicate 19 0))
 rw[←hg0]at al
 have hga:g0.get a=some (ints (List.replicate 19 0)):=by rw[hg0,H.aW,if_pos ha]
 have oc:=H9 g0
 obtain⟨h1,k1,k2,k3⟩:=yC al.1 4 4 rfl (by omega)
 obtain⟨G,hG⟩:∃G,G=(u5 c 4 S).1:=⟨_,rfl⟩
 obtain⟨S1,hS1⟩:∃G,G=(u5 c 4 S).2:=⟨_,rfl⟩
 rw[←hG]at k1;rw[←hS1]at k2
 have hG16:G<16:=by
  rw[hG];unfold u5;split
  · simpa using wE c.text S.at_ 4
  · simp
 have w1:IntKind.wrap .i64 ((G:Int)+4)=((G+4:Nat):Int):=u4 (n:=G+4) (by omega)
 obtain⟨x,hx⟩:∃x,x=AV.aV false (ints vn) 0 (G+4) 1:=⟨_,rfl⟩
 have sl:rF h1 1 (vU vn) none (some (I (G+4:Nat))) none=some x:=by
  rw[hx];exact G6 (by rw[pk]) (by show G+4≤19;omega)
 have xl:iJ false x=some (I (G+4:Nat)):=by rw[hx];rfl
 obtain⟨xs,hxs⟩:∃xs,xs=vn.take (G+4):=⟨_,rfl⟩
 have hol:vn.length=19:=rfl
 have hxsl:xs.length=G+4:=by rw[hxs,Su,hol];omega
 have rdx:Rd h1 x (ints xs):=by
  refine⟨?_,by rw[hx];intro s e;cases e⟩
  have ht:(ints vn).take (G+4)=ints xs:=by rw[hxs];simp [ints,List.map_take]
  simp only[aS,hx,if_true]
  rw[if_pos (by rw[pk,hol];omega),Sf,Nat.mul_one,ht];simp [hxsl]
 have hac:a≠c.s∧a≠c.r:=⟨fun e=>by have:=st.lt (.inl e);omega,fun e=>by have:=st.lt (.inr (.inl e));omega⟩
 have hoa:ov.id?≠some a:=fun e=>by have:=st.lt (.inr (.inr e));omega
 have hga1:h1.get a=some (ints (List.replicate 19 0)):=by rw[k3.GZ a (g0.lt _ _ hga) hac.1 hac.2 hoa];exact hga
 have hfa:h1.floor≤a:=by rw[k3.fl,hg0,ha];simp;exact st.nx
 obtain⟨e2,h2,l1,l2,l3,l4,l5,l6,l7,l8,l9⟩:=Gv (c:=c) a x xs (fun s hs=>Ej s (List.mem_of_mem_take (hxs ▸ hs))) (by omega) hac (I many) xs [] (List.replicate 19 0) S1 h1 ov rfl rdx (by rw[hx];intro i e;cases e) k2 hoa hga1 (by simp) hfa
 obtain⟨cl,hcl⟩:∃cl,cl=(zw c xs (List.replicate 19 0) S1).1:=⟨_,rfl⟩
 obtain⟨S2,hS2⟩:∃cl,cl=(zw c xs (List.replicate 19 0) S1).2:=⟨_,rfl⟩
 rw[←hS2]at l5;rw[←hcl]at l6
 have hcll:cl.length=19:=by rw[hcl,Gu];simp
 have hclb:∀y∈cl,0≤y∧y<16:=by
  rw[hcl];refine Ia c _ _ _ fun y hy=> ?_
  obtain⟨_,rfl⟩:=List.mem_replicate.1 hy;omega
 rw[hxsl]at l1
 have l1':Lp AP.A [0,1,5,18,19,20] AP.f64L1 [(0,.aD c.s 0),(1,I many),(5,.aD a 0),(18,x),(19,I (G+4:Nat)),(20,I 0)] h1=some (.exit 0,e2,h2):=l1
 clear l1
 have fr2:Fr c h ov h2 ov:=by
  refine⟨by rw[l7,k3.fl,al.2.fl], ?_,fun id i1 i2 i3 i4=> ?_,fun i hi=>.inl hi⟩
  · have:=al.2.nx;have:=k3.nx;omega
  · have hn0:g0.next=h.next+1:=by rw[hg0];simp
    have:=k3.nx
    rw[l9 id (by omega) i2 i3 i4 (by omega),k3.GZ id (by omega) i2 i3 i4,al.2.GZ id i1 i2 i3 i4]
 have ri:lS h2 19 1 (.aD a 0) none none=some (.aE a 0 19 1):=by
  simp [lS,l6,aB,hcll]
 have gI:Rd h2 (.aE a 0 19 1) (ints cl):=by
  refine⟨?_,by intro s e;cases e⟩
  simp [aS,l6,hcll,uP]
 have ck:=EP h2 (.aE a 0 19 1) cl (by omega) gI
 have mk:=zq h2 (.aE a 0 19 1) cl (by omega) hclb gI
 have hhead:(vp cl=0∧S2.e=0∧S.at_+4≤8* c.text.size∧S.at_+4+3* (u0 c.text S.at_ 4+4)≤8* c.text.size∧cl=BA c.text (vn.take (u0 c.text S.at_ 4+4)) (S.at_+4) (List.replicate 19 0)∧S2={S with at_:=S.at_+4+3* (u0 c.text S.at_ 4+4)})∨((vp cl≠0∨S2.e≠0)∧(S2.e=0∨S2.e=700)∧xb c.text many S.at_=none):=by
  by_cases hp:S.at_+4≤8* c.text.size
  · have eg:u5 c 4 S=(u0 c.text S.at_ 4,{S with at_:=S.at_+4}):=by rw[u5,if_pos hp]
    rw[eg]at hG hS1;dsimp only at hG hS1
    subst hS1
    by_cases hp2:S.at_+4+3* (u0 c.text S.at_ 4+4)≤8* c.text.size
    · have ok:=Ib c xs (List.replicate 19 0) {S with at_:=S.at_+4} he (by dsimp only;omega)
      rw[ok]at hcl hS2
      dsimp only at hcl hS2
      rw[hxsl,hG]at hS2
      rw[hxs,hG]at hcl
      by_cases hck:vp cl=0
      · exact .inl ⟨hck,by rw[hS2];exact he,hp,hp2,hcl,hS2⟩
      · refine .inr ⟨.inl hck,.inl (by rw[hS2];exact he), ?_⟩
        rw[xb,if_pos hp];dsimp only;rw[if_pos hp2,←hcl,if_neg hck]
    · have hb:=Gt c xs (List.replicate 19 0) {S with at_:=S.at_+4} he (by dsimp only;omega) (by dsimp only;omega)
      rw[←hS2]at hb
      refine .inr ⟨.inr (by rw[hb];decide),.inr hb, ?_⟩
      rw[xb,if_pos hp];dsimp only;rw[if_neg hp2]
  · have eg:u5 c 4 S=(0,{S with e:=700}):=by rw[u5,if_neg hp,vz,if_pos he]
    rw[eg]at hS1;dsimp only at hS1
    have hb:=Fa c xs (List.replicate 19 0) S1 (by rw[hS1])
    rw[←hS2]at hb
    exact .inr ⟨.inr (by rw[hb];decide),.inr hb,by rw[xb,if_neg hp]⟩
 have hbk:∀(h3:H) (S3:SS),St c S3 h3 ov→Fr c h ov h3 ov→aR AP.A 41 [.aE a 0 19 1] h3=some (vu cl,h3)→lS h3 19 1 (.aD a 0) none none=some (.aE a 0 19 1)→
  (aL (aR AP.A) bp (.cond (.t 31) (.oD [⟨some 32,.mv (.t 0),none⟩,⟨some 33,.call (.c (.fn 45 [] [])) [(.t 32),(.c (.int .i64 700))],none⟩] [0,1,5]) .skip [0,1,5]) [(0,.aD c.s 0),(1,I many),(5,.aD a 0),(31,.bool (vp cl !=0))] h2=some (.normal,[(0,.aD c.s 0),(1,I many),(5,.aD a 0)],h3))→
  ∀(e4:Env) (h4:H) (av:AV) (acc:List Int) (h5:H),Lp AP.A [0,1,9,10] AP.f64L0 [(0,.aD c.s 0),(1,I many),(9,vu cl),(10,.aP)] h3=some (.exit 2,e4,h4)→look e4 0=.aD c.s 0→look e4 1=I many→look e4 10=av→iJ false av=some (I acc.length)→
  (many<acc.length→aR AP.A 45 [.aD c.s 0,I 700] h4=some (.bK [],h5))→(¬many<acc.length→h5=h4)→aR AP.A 64 [.aD c.s 0,I many] h=some (av,h5):=by
  intro h3 S3 st3 fr3 mk3 sla3 cnd e4 h4 av acc h5 m1 m2 m3 m4 m5 m6 m7
  refine s7 (fn:=AP.f64) (e:=[(4,av)]) (vs:=[av]) rfl rfl rfl ?_ rfl
  have bt:∀e:Env,aY e (.alloc [.int .i64 0,.int .i64 0,.int .i64 0,.int .i64 0,.int .i64 0,.int .i64 0,.int .i64 0,.int .i64 0,.int .i64 0,.int .i64 0,.int .i64 0,.int .i64 0,.int .i64 0,.int .i64 0,.int .i64 0,.int .i64 0,.int .i64 0,.int .i64 0,.int .i64 0])=some (ints (List.replicate 19 0),fun i=>.aD i 0):=fun _=>rfl
  unfold AP.f64
  refine tU (e1:=[(0,.aD c.s 0),(1,I many)]) (h1:=h) rfl ?_
  refine tU (e1:=[(0,.aD c.s 0),(1,I many),(5,.aD a 0)]) (h1:=g0) ?_ ?_
  · simp only[go_sem,bt,←hg0,←ha]
  refine tU (e1:=[(0,.aD c.s 0),(1,I many),(5,.aD a 0),(6,vU vn)]) (h1:=g0) ?_ ?_
  · simp only[go_sem,oc]
  refine tU (e1:=[(0,.aD c.s 0),(1,I many),(5,.aD a 0)]) (h1:=h2) ?_ ?_
  · clear bt
    simp only[I]at *
    simp only[go_sem,k1,w1,RZ,Sx,sl,xl,rK,l1',l2,l3,l4]
  refine tU (e1:=[(0,.aD c.s 0),(1,I many),(5,.aD a 0)]) (h1:=h3) ?_ ?_
  · refine tU (e1:=[(0,.aD c.s 0),(1,I many),(5,.aD a 0),(31,.bool (vp cl !=0))]) (h1:=h2) ?_ cnd
    simp only[I]at *
    simp only[go_sem,Sx,ri,ck]
  refine tU (e1:=[(0,.aD c.s 0),(1,I many),(9,vu cl)]) (h1:=h3) ?_ ?_
  · simp only[go_sem,Sx,sla3,mk3]
  refine tU (e1:=[(0,.aD c.s 0),(1,I many),(9,vu cl),(10,.aP)]) (h1:=h3) rfl ?_
  refine tU (e1:=[(0,.aD c.s 0),(1,I many),(10,av)]) (h1:=h4) ?_ ?_
  · simp only[go_sem,rK,m1,m2,m3,m4]
  refine tU (e1:=[(10,av)]) (h1:=h5) ?_ ?_
  · by_cases hgt:many<acc.length
    · have c1:(many:Int)<(acc.length:Int):=by omega
      have m6':=m6 hgt
      clear m6 m7
      simp only[I]at *
      simp only[go_sem,m5,R0 c1,m6']
    · have c1:¬(many:Int)<(acc.length:Int):=by omega
      have m7':=m7 hgt
      subst m7'
      clear m6 m7
      simp only[I]at *
      simp only[go_sem,m5,RY c1]
  simp only[go_sem]
 rcases hhead with ⟨hck,he2,hp,hp2,hcl2,hS22⟩|⟨hbad,he2,hnone⟩
 · have hlen0:xb c.text many S.at_=vM c.text cl many (8* c.text.size+1) [] S2.at_:=by
    rw[xb,if_pos hp];dsimp only;rw[if_pos hp2,←hcl2,if_pos hck,hS22]
   have cnd:aL (aR AP.A) bp (.cond (.t 31) (.oD [⟨some 32,.mv (.t 0),none⟩,⟨some 33,.call (.c (.fn 45 [] [])) [(.t 32),(.c (.int .i64 700))],none⟩] [0,1,5]) .skip [0,1,5]) [(0,.aD c.s 0),(1,I many),(5,.aD a 0),(31,.bool (vp cl !=0))] h2=some (.normal,[(0,.aD c.s 0),(1,I many),(5,.aD a 0)],h2):=by
    have cb:(vp cl !=0)=false:=tM hck
    simp only[go_sem,cb]
   obtain⟨e4,h4,S4,av,acc,m1,m2,m3,m4,m5,m6,m7,m8,m9,m10⟩:=Ee h cl (by omega) many hm (8* c.text.size+1) [] S2 h2 ov .aP l5 he2 (by omega) fr2 (.inl ⟨rfl,rfl⟩) (by simp) (fun i q=>by cases q) (fun i hi=>st.lt hi)
   have ln:=m7.len
   rw[pk]at ln
   rw[hlen0]
   cases hL:vM c.text cl many (8* c.text.size+1) [] S2.at_ with
   | some q =>
     obtain⟨L,p⟩:=q
     rw[hL]at m10
     obtain⟨n1,n2,n3⟩:=m10
     have hng:¬many<acc.length:=by rw[n2];omega
     refine⟨h4,S4,av,acc,hbk h2 S2 l5 fr2 mk ri cnd e4 h4 av acc h4 m1 m2 m3 m4 ln (fun q=>absurd q hng) (fun _=>rfl),m5,m6,m7,m9, ?_,n2,n3⟩
     rw[n1,hS22]
   | none =>
     rw[hL]at m10
     dsimp only at m10 ⊢
     by_cases hgt:many<acc.length
     · obtain⟨h5,f1,f2,f3⟩:=xg m5 700
       refine⟨h5,vz 700 S4,av,acc,hbk h2 S2 l5 fr2 mk ri cnd e4 h4 av acc h5 m1 m2 m3 m4 ln (fun _=>f1) (fun q=>absurd hgt q),f2,m6.trans f3, ?_,m9, ?_⟩
       · refine m7.mono f3.fl fun i hi=>f3.GZ i (m7.lt hi) (fun e=> ?_) (fun e=> ?_) (fun e=> ?_)
         · have:=m9 i hi;have:=st.lt (.inl e);omega
         · have:=m9 i hi;have:=st.lt (.inr (.inl e));omega
         · have:=m9 i hi;have:=st.lt (.inr (.inr e));omega
       · rcases m10 with q|⟨q,_⟩<;>simp [vz,q]
     · refine⟨h4,S4,av,acc,hbk h2 S2 l5 fr2 mk ri cnd e4 h4 av acc h4 m1 m2 m3 m4 ln (fun q=>absurd q hgt) (fun _=>rfl),m5,m6,m7,m9, ?_⟩
       rcases m10 with q|⟨_,q⟩
       · exact q
       · exact absurd q hgt
 · rw [hnone]
   have key:∃h3 S3,St c S3 h3 ov∧Fr c h ov h3 ov∧S3.e=700∧h3.get a=some (ints cl)∧aL (aR AP.A) bp (.cond (.t 31) (.oD [⟨some 32,.mv (.t 0),none⟩,⟨some 33,.call (.c (.fn 45 [] [])) [(.t 32),(.c (.int .i64 700))],none⟩] [0,1,5]) .skip [0,1,5]) [(0,.aD c.s 0),(1,I many),(5,.aD a 0),(31,.bool (vp cl !=0))] h2=some (.normal,[(0,.aD c.s 0),(1,I many),(5,.aD a 0)],h3):=by
    by_cases hck:vp cl=0
    · have hb:S2.e≠0:=by rcases hbad with q|q;exact absurd hck q;exact q
      refine⟨h2,S2,l5,fr2,by rcases he2 with q|q;exact absurd q hb;exact q,l6, ?_⟩
      have cb:(vp cl !=0)=false:=tM hck
      simp only[go_sem,cb]
    · obtain⟨h3,f1,f2,f3⟩:=xg l5 700
      refine⟨h3,vz 700 S2,f2,fr2.trans f3,by rcases he2 with q|q<;>simp [vz,q],by rw[f3.GZ a (h2.lt _ _ l6) hac.1 hac.2 hoa];exact l6, ?_⟩
      have cb:(vp cl !=0)=true:=tN hck
      simp only[I]at *
      simp only[go_sem,cb,f1]
   obtain⟨h3,S3,st3,fr3,he3,hg3,cnd⟩:=key
   have sla3:lS h3 19 1 (.aD a 0) none none=some (.aE a 0 19 1):=by
    simp [lS,hg3,aB,hcll]
   have rdc3:Rd h3 (.aE a 0 19 1) (ints cl):=by
    refine⟨?_,by intro s e;cases e⟩
    simp [aS,hg3,hcll,uP]
   have mk3:=zq h3 (.aE a 0 19 1) cl (by omega) hclb rdc3
   obtain⟨e4,m1,m2,m3,m4⟩:=xS st3 (vu cl) many (av:=.aP) (acc:=[]) (.inl ⟨rfl,rfl⟩) (.inr ⟨by simpa using hm0,by rw[he3];decide⟩)
   exact⟨h3,S3,.aP,[],hbk h3 S3 st3 fr3 mk3 sla3 cnd e4 h3 .aP [] h3 m1 m2 m3 m4 rfl (fun q=>by simp at q) (fun _=>rfl),st3,fr3,.inl ⟨rfl,rfl⟩,(fun i q=>by cases q),he3⟩
def zr (l:List Int):Prop:=∀y∈l,0≤y∧y<16
theorem G3 {t : ByteArray} {y : Int} {acc : List Int} {n : Int} {q times p2 : Nat} (hy : 0 ≤ y ∧ y < 19) (ha : zr acc) (h : wz t y acc q = some (n, times, p2)) : 0 ≤ n ∧ n < 16 := by
 unfold wz at h
 split at h
 · split at h
   · cases h
   · rename_i hn
     split at h
     · have:=Sn (fun o=>o.map (·.1)) h
       simp only[RZ,um]at this
       rw[←this]
       have hl:0<acc.length:=List.length_pos_iff.2 hn
       refine ha _ ?_
       rw[RT,RW (by omega)]
       exact Sb _
     · cases h
 · split at h
   · split at h
     · have:=Sn (fun o=>o.map (·.1)) h
       simp only[RZ,um]at this;omega
     · cases h
   · split at h
     · split at h
       · have:=Sn (fun o=>o.map (·.1)) h
         simp only[RZ,um]at this;omega
       · cases h
     · have:=Sn (fun o=>o.map (·.1)) h
       simp only[RZ,um]at this;omega
theorem AX {t : ByteArray} {cl : List Int} (hcl : cl.length = 19) {many : Nat} : ∀ {f : Nat} {acc : List Int} {p : Nat} {L : List Int} {p2 : Nat}, zr acc → vM t cl many f acc p = some (L, p2) → zr L
 |0,_,_,_,_,_,h=>by cases h
 | f + 1, acc, p, L, p2, ha, h => by
   rw[vM]at h
   split at h
   · split at h
     · cases h
     · rename_i y p1 hs
       have sb:=wO hs
       split at h
       · cases h
       · rename_i n times q hag
         have hr:=G3 ⟨sb.1,by omega⟩ ha hag
         exact AX hcl (fun y hy=>by
          rcases Sj.1 hy with hy|hy
          · exact ha y hy
          · obtain⟨_,rfl⟩:=List.mem_replicate.1 hy;exact hr) h
   · split at h
     · cases h
     · have:=Sn (fun o=>o.map (·.1)) h
       simp only[RZ,um]at this;rw[←this];exact ha
theorem Gq (t:ByteArray):∀(r:List Int) (p:Nat) (o:List Int),(BA t r p o).length=o.length
 |[],_,_=>rfl
 |s::r,p,o=>by rw[BA,Gq t r];simp
theorem I4 {t:ByteArray} {many p:Nat} {L:List Int} {p2:Nat} (h:xb t many p=some (L,p2)):zr L:=by
 unfold xb at h
 split at h
 · dsimp only at h
   split at h
   · split at h
     · exact AX (by rw[Gq];simp) (fun y hy=>by cases hy) h
     · cases h
   · cases h
 · cases h
def y6 (t : ByteArray) (most : Int) (p : Nat) (out : List Nat) : Rs :=
 if p+10≤8* t.size then
  let lits:=u0 t p 5+257
  let dists:=u0 t (p+5) 5+1
  if 286<lits∨30<dists then .error 700 else
  match xb t (lits+dists) (p+10)with
  |none=>.error 700
  | some (L, p2) =>
    if vp (L.take lits)≠0∨(L.take lits).getD 256 0=0∨(vp (L.drop lits)≠0∧xu (L.drop lits)=false)then .error 700
    else vQ t most (L.take lits) (L.drop lits) (8* t.size+1) p2 out
 else .error 700
theorem IW {c : SC} {S : SS} {h : H} {ov : AV} (st : St c S h ov) (he : S.e = 0) :
 ∃h' ov' S',aR AP.A 44 [.aD c.s 0] h=some (.bK [],h')∧St c S' h' ov'∧Fr c h ov h' ov'∧Fin (y6 c.text c.most S.at_ S.out) S':=by
 obtain⟨h1,a1,a2,a3⟩:=yC st 5 5 rfl (by omega)
 obtain⟨h2,b1,b2,b3⟩:=yC a2 5 5 rfl (by omega)
 obtain⟨A,hA⟩:∃n,n=(u5 c 5 S).1:=⟨_,rfl⟩
 obtain⟨S1,hS1⟩:∃n,n=(u5 c 5 S).2:=⟨_,rfl⟩
 rw[←hA]at a1;rw[←hS1]at a2 b1 b2
 obtain⟨B,hB⟩:∃n,n=(u5 c 5 S1).1:=⟨_,rfl⟩
 obtain⟨S2,hS2⟩:∃n,n=(u5 c 5 S1).2:=⟨_,rfl⟩
 rw[←hB]at b1;rw[←hS2]at b2
 have g5:∀S,(u5 c 5 S).1<32:=fun S=>by
  unfold u5;split
  · simpa using wE c.text S.at_ 5
  · simp
 have hA32:A<32:=hA ▸ g5 S
 have hB32:B<32:=hB ▸ g5 S1
 have w1:IntKind.wrap .i64 ((A:Int)+257)=((A+257:Nat):Int):=u4 (n:=A+257) (by omega)
 have w2:IntKind.wrap .i64 ((B:Int)+1)=((B+1:Nat):Int):=u4 (n:=B+1) (by omega)
 have gs2:=b2.gs
 have he2:S2.e=0∨S2.e=700:=by rw[hS2];exact JS c 5 _ (by rw[hS1];exact JS c 5 S (.inl he))
 have fr2:=a3.trans b3
 have bad:(S2.e≠0∨286<A+257∨30<B+1)→∃h' ov' S',aR AP.A 44 [.aD c.s 0] h=some (.bK [],h')∧St c S' h' ov'∧Fr c h ov h' ov'∧S'.e=700∧(700:Int)≠0:=by
  intro hb
  obtain⟨h3,f1,f2,f3⟩:=xg b2 700
  refine⟨h3,ov,vz 700 S2, ?_,f2,fr2.trans f3,by rcases he2 with q|q<;>simp [vz,q],by decide⟩
  refine s7 (fn:=AP.f44) (e:=[]) (vs:=[]) rfl rfl rfl ?_ rfl
  by_cases c1:S2.e=0
  · have c1':=tM c1
    by_cases c2:286<A+257
    · have c2':(286:Int)<((A+257:Nat):Int):=by omega
      simp only[I]at *
      simp only[AP.f44,go_sem,a1,b1,w1,w2,gs2,c1',R0 c2',f1]
    · have c2':¬(286:Int)<((A+257:Nat):Int):=by omega
      have c3':(30:Int)<((B+1:Nat):Int):=by
       rcases hb with q|q|q
       · exact absurd c1 q
       · exact absurd q c2
       · omega
      simp only[I]at *
      simp only[AP.f44,go_sem,a1,b1,w1,w2,gs2,c1',RY c2',R0 c3',f1]
  · have c1':=tN c1
    simp only[I]at *
    simp only[AP.f44,go_sem,a1,b1,w1,w2,gs2,c1',f1]
 unfold y6
 by_cases hp:S.at_+10≤8* c.text.size
 · have e1 : u5 c 5 S = (u0 c.text S.at_ 5, { S with at_ := S.at_ + 5 }) := by rw [u5, if_pos (by omega)]
   rw[e1]at hA hS1;dsimp only at hA hS1
   have e2:u5 c 5 {S with at_:=S.at_+5}=(u0 c.text (S.at_+5) 5,{S with at_:=S.at_+5+5}):=by rw[u5,if_pos (by show S.at_+5+5≤_;omega)]
   rw[hS1,e2]at hB hS2;dsimp only at hB hS2
   rw[if_pos hp]
   dsimp only
   rw[←hA,←hB]
   by_cases hbig:286<A+257∨30<B+1
   · rw[if_pos hbig];exact bad (.inr hbig)
   · rw [if_neg hbig]
     have c1':(S2.e !=0)=false:=tM (by rw[hS2];exact he)
     have c2':¬(286:Int)<((A+257:Nat):Int):=by omega
     have c3':¬(30:Int)<((B+1:Nat):Int):=by omega
     have w3:IntKind.wrap .i64 (((A+257:Nat):Int)+((B+1:Nat):Int))=((A+257+(B+1):Nat):Int):=by
      rw[show((A+257:Nat):Int)+((B+1:Nat):Int)=((A+257+(B+1):Nat):Int)by omega];exact u4 (by omega)
     obtain⟨h3,S3,av,acc,l1,l2,l3,l4,l5,l6⟩:=I3 b2 (by rw[hS2];exact he) (A+257+(B+1)) (by omega) (by omega)
     have gs3:=l2.gs
     have hat2:S2.at_=S.at_+10:=by rw[hS2]
     rw[hat2]at l6
     cases hL:xb c.text (A+257+(B+1)) (S.at_+10)with
     | none =>
       rw[hL]at l6
       have c4:(S3.e !=0)=true:=tN (by rw[l6];decide)
       refine⟨h3,ov,S3, ?_,l2,fr2.trans l3,l6,by decide⟩
       refine s7 (fn:=AP.f44) (e:=[(0,.aD c.s 0),(2,I (A+257:Nat)),(4,av),(37,.bool true)]) (vs:=[]) rfl rfl rfl ?_ rfl
       simp only[I]at *
       simp only[AP.f44,go_sem,a1,b1,w1,w2,gs2,c1',RY c2',RY c3',w3,l1,gs3,c4]
     | some q =>
       obtain⟨L,p2⟩:=q
       rw[hL]at l6
       obtain⟨l6,l7,l8⟩:=l6
       subst l7
       have hrng:=I4 hL
       dsimp only
       have he3:S3.e=0:=by rw[l6,hS2];exact he
       have c4:(S3.e !=0)=false:=tM he3
       obtain⟨id,hav,hgid⟩:∃id,av=.aE id 0 (A+257+(B+1)) 1∧h3.get id=some (ints acc):=by
        rcases l4 with ⟨_,q⟩|⟨id,q1,q2,_⟩
        · have:=Sn List.length q;rw[pk,l8,RX]at this;omega
        · exact⟨id,by rw[q1,pk,l8],q2⟩
       have hil:(ints acc).length=A+257+(B+1):=by rw[pk,l8]
       have s1:=G5 (h:=h3) (k:=A+257) hgid hil (uy _) (by omega)
       have s2:=Jw (h:=h3) (k:=A+257) hgid hil (by omega)
       rw[show A+257+(B+1)-(A+257)=B+1 by omega]at s2
       rw[←hav]at s1 s2
       obtain⟨la,hla⟩:∃x,x=acc.take (A+257):=⟨_,rfl⟩
       obtain⟨lb,hlb⟩:∃x,x=acc.drop (A+257):=⟨_,rfl⟩
       have hlal:la.length=A+257:=by rw[hla,Su];omega
       have hlbl:lb.length=B+1:=by rw[hlb,List.length_drop];omega
       have ra:Rd h3 (.aE id 0 (A+257) 1) (ints la):=by
        refine⟨?_,by intro s e;cases e⟩
        simp only[aS,if_true,hgid,uv]
        rw[if_pos (by rw[hil];omega),hla];simp [ints,List.map_take];omega
       have rb:Rd h3 (.aE id (A+257) (B+1) 1) (ints lb):=by
        refine⟨?_,by intro s e;cases e⟩
        simp only[aS,if_true,hgid,uv]
        rw[if_pos (by rw[hil];omega),hlb]
        have:(ints (acc.drop (A+257))).length=B+1:=by rw[pk,←hlb,hlbl]
        rw[this,ints,ints,←List.map_drop,Nat.mul_one,uP (by rw[List.length_map,←hlb,hlbl];omega)]
       rw[←hla,←hlb]
       have cka:=EP h3 _ la (by omega) ra
       have ckb:=EP h3 _ lb (by omega) rb
       have hra:zr la:=fun y hy=>hrng y (List.mem_of_mem_take (hla ▸ hy))
       have hrb:zr lb:=fun y hy=>hrng y (List.mem_of_mem_drop (hlb ▸ hy))
       have sgb:=Ks h3 _ lb (by omega) hrb rb
       have mka:=zq h3 _ la (by omega) hra ra
       have mkb:=zq h3 _ lb (by omega) hrb rb
       have hel:=D8 (l:=la) (i:=256) (by omega)
       obtain⟨ad,p1,p2'⟩:=ra.elem hel
       have p3:=p2' h3 (fun _ _ q=>q)
       have p1':fE 1 (.aE id 0 (A+257) 1) (I 256)=some ad:=p1
       clear p1 p2'
       obtain⟨cb,hcb⟩:∃b:Bool,(b=true↔vp la≠0∨la.getD 256 0=0∨(vp lb≠0∧xu lb=false)):=⟨decide _,decide_eq_true_iff⟩
       have step:∀k,aL (aR AP.A) bp k [(0,.aD c.s 0),(2,I (A+257:Nat)),(4,av)] h3=aL (aR AP.A) bp k [(0,.aD c.s 0),(2,I (A+257:Nat)),(4,av)] h3:=fun _=>rfl
       by_cases hbad:vp la≠0∨la.getD 256 0=0∨(vp lb≠0∧xu lb=false)
       · rw [if_pos hbad]
         obtain⟨h4,f1,f2,f3⟩:=xg l2 700
         refine⟨h4,ov,vz 700 S3, ?_,f2,(fr2.trans l3).trans f3,by simp [vz,he3],by decide⟩
         refine s7 (fn:=AP.f44) (e:=[]) (vs:=[]) rfl rfl rfl ?_ rfl
         by_cases d1:vp la=0
         · have d1':=tM d1
           by_cases d2:la.getD 256 0=0
           · have d2':=tL d2
             simp only[I]at *
             simp only[AP.f44,go_sem,a1,b1,w1,w2,gs2,c1',RY c2',RY c3',w3,l1,gs3,c4,RZ,Sx,s1,s2,cka,d1',p1',p3,d2',f1]
           · have d2':=tK d2
             obtain⟨d3,d4⟩:vp lb≠0∧xu lb=false:=by
              rcases hbad with q|q|q
              · exact absurd d1 q
              · exact absurd q d2
              · exact q
             have d3':=tN d3
             rw[d4]at sgb
             simp only[I]at *
             simp only[AP.f44,go_sem,a1,b1,w1,w2,gs2,c1',RY c2',RY c3',w3,l1,gs3,c4,RZ,Sx,s1,s2,cka,d1',p1',p3,d2',ckb,d3',sgb,f1]
         · have d1':=tN d1
           simp only[I]at *
           simp only[AP.f44,go_sem,a1,b1,w1,w2,gs2,c1',RY c2',RY c3',w3,l1,gs3,c4,RZ,Sx,s1,s2,cka,d1',f1]
       · rw [if_neg hbad]
         have d1:vp la=0:=Decidable.byContradiction fun q=>hbad (.inl q)
         have d2:la.getD 256 0≠0:=fun q=>hbad (.inr (.inl q))
         have d1':=tM d1
         have d2':=tK d2
         obtain⟨h4,ov4,S4,q1,q2,q3,q4⟩:=HO la lb (by omega) (by omega) l2 he3
         refine⟨h4,ov4,S4, ?_,q2,(fr2.trans l3).trans q3, ?_⟩
         · refine vT (fn:=AP.f44) (e:=[]) (vs:=[]) rfl rfl rfl ?_ rfl
           by_cases d3:vp lb=0
           · have d3':=tM d3
             simp only[I]at *
             simp only[AP.f44,go_sem,a1,b1,w1,w2,gs2,c1',RY c2',RY c3',w3,l1,gs3,c4,RZ,Sx,s1,s2,cka,d1',p1',p3,d2',ckb,d3',mka,mkb,q1]
           · have d3':=tN d3
             have d4:xu lb=true:=by
              cases hs:xu lb with
              |true=>rfl
              |false=>exact absurd (.inr (.inr ⟨d3,hs⟩)) hbad
             rw[d4]at sgb
             simp only[I]at *
             simp only[AP.f44,go_sem,a1,b1,w1,w2,gs2,c1',RY c2',RY c3',w3,l1,gs3,c4,RZ,Sx,s1,s2,cka,d1',p1',p3,d2',ckb,d3',sgb,mka,mkb,q1]
         · have:S3.at_=p2:=by rw[l6]
           have ho:S3.out=S.out:=by rw[l6,hS2]
           rw[this,ho]at q4;exact q4
 · rw[if_neg hp]
   refine bad (.inl ?_)
   rw[hS2,hS1]
   unfold u5
   by_cases q1:S.at_+5≤8* c.text.size
   · simp only[if_pos q1];rw[if_neg (by omega)];simp [vz,he]
   · simp only[if_neg q1,vz,he,if_true];split<;>simp
def vO (t : ByteArray) (most : Int) (p : Nat) (out : List Nat) : Except Int (Bool × Nat × List Nat) :=
 if p+3≤8* t.size then
  let r:Rs:=if u0 t (p+1) 2=0 then wk t most (p+3) out
   else if u0 t (p+1) 2=1 then vQ t most vA (List.replicate 30 5) (8* t.size+1) (p+3) out
   else if u0 t (p+1) 2=2 then y6 t most (p+3) out
   else .error 700
  match r with
  | .ok q=>.ok (u0 t p 1==1,q.1,q.2)
  | .error k=>.error k
 else .error 700
def OT (r:Except Int (Bool×Nat×List Nat)) (b:Bool) (S:SS):Prop:=match r with
 | .ok q=>b=q.1∧S=⟨q.2.1,q.2.2,0⟩
 | .error k=>S.e=k∧k≠0
theorem CL:vA.length=288:=by simp only[vA,uU,R9]
theorem Hi:zr vA:=by
 intro y hy
 simp only[vA,Sj]at hy
 rcases hy with hy|hy|hy|hy<;>(obtain⟨_,rfl⟩:=List.mem_replicate.1 hy;omega)
theorem IX:zr (List.replicate 30 5):=by
 intro y hy
 obtain⟨_,rfl⟩:=List.mem_replicate.1 hy;omega
theorem K4 {c : SC} {S : SS} {h : H} {ov : AV} (st : St c S h ov) (he : S.e = 0) :
 ∃h' ov' S' b,aR AP.A 15 [.aD c.s 0] h=some (.bool b,h')∧St c S' h' ov'∧Fr c h ov h' ov'∧OT (vO c.text c.most S.at_ S.out) b S':=by
 obtain⟨h1,a1,a2,a3⟩:=yC st 1 1 rfl (by omega)
 obtain⟨h2,b1,b2,b3⟩:=yC a2 2 2 rfl (by omega)
 obtain⟨A,hA⟩:∃n,n=(u5 c 1 S).1:=⟨_,rfl⟩
 obtain⟨S1,hS1⟩:∃n,n=(u5 c 1 S).2:=⟨_,rfl⟩
 rw[←hA]at a1;rw[←hS1]at a2 b1 b2
 obtain⟨B,hB⟩:∃n,n=(u5 c 2 S1).1:=⟨_,rfl⟩
 obtain⟨S2,hS2⟩:∃n,n=(u5 c 2 S1).2:=⟨_,rfl⟩
 rw[←hB]at b1;rw[←hS2]at b2
 have gs2:=b2.gs
 have fr2:=a3.trans b3
 obtain⟨lb,hlb⟩:∃b:Bool,b=((A:Int)==1):=⟨_,rfl⟩
 unfold vO
 by_cases hp:S.at_+3≤8* c.text.size
 · rw [if_pos hp]
   have e1:u5 c 1 S=(u0 c.text S.at_ 1,{S with at_:=S.at_+1}):=by rw[u5,if_pos (by omega)]
   rw[e1]at hA hS1;dsimp only at hA hS1
   have e2:u5 c 2 {S with at_:=S.at_+1}=(u0 c.text (S.at_+1) 2,{S with at_:=S.at_+1+2}):=by rw[u5,if_pos (by show S.at_+1+2≤_;omega)]
   rw[hS1,e2]at hB hS2;dsimp only at hB hS2
   have he2:S2.e=0:=by rw[hS2];exact he
   have hat:S2.at_=S.at_+3:=by rw[hS2]
   have hout:S2.out=S.out:=by rw[hS2]
   dsimp only
   rw[←hA,←hB]
   have hlb2:lb=(A==1):=by
    rw[hlb];by_cases q:A=1
    · subst q;rfl
    · rw[tK (by omega)];symm;simp [q]
   have wrap:∀(r:Rs) (h':H) (ov':AV) (S':SS),aR AP.A 15 [.aD c.s 0] h=some (.bool lb,h')→St c S' h' ov'→Fr c h2 ov h' ov'→Fin r S'→∃h' ov' S' b,aR AP.A 15 [.aD c.s 0] h=some (.bool b,h')∧St c S' h' ov'∧Fr c h ov h' ov'∧OT (match r with| .ok q=>.ok (A==1,q.1,q.2)| .error k=>.error k) b S':=by
    intro r h' ov' S' q1 q2 q3 q4
    refine⟨h',ov',S',lb,q1,q2,fr2.trans q3, ?_⟩
    cases r with
    |ok q=>exact⟨hlb2,q4⟩
    |error k=>exact q4
   have c0:(S2.e==0)=true:=tL he2
   by_cases d0:B=0
   · rw[if_pos d0]
     obtain⟨h',ov',S',q1,q2,q3,q4⟩:=KH b2 he2
     rw[hat,hout]at q4
     refine wrap _ h' ov' S' ?_ q2 q3 q4
     have d0':((B:Int)==0)=true:=tL (by omega)
     refine s7 (fn:=AP.f15) (e:=[(2,.bool lb)]) rfl rfl rfl ?_ rfl
     simp only[I]at *
     simp only[AP.f15,go_sem,a1,b1,←hlb,d0',gs2,c0,q1]
   · rw [if_neg d0]
     have d0':((B:Int)==0)=false:=tK (by omega)
     by_cases d1:B=1
     · rw[if_pos d1]
       have d1':((B:Int)==1)=true:=tL (by omega)
       have f1:=HZ h2
       have m1:=zq h2 (vU vA) vA (by rw[CL];omega) Hi (xK _ _)
       have al:=b2.alloc [I 5]
       have r1:=yc (h2.alloc [I 5]) (.aE h2.next 0 1 1) 5 30 (by omega) (zN _ _)
       have r1':aR AP.A 43 [.aE h2.next 0 1 1,I 30] (h2.alloc [I 5])=some (vU (List.replicate 30 5),h2.alloc [I 5]):=by
        rw[vU,R9];exact r1
       have m2:=zq (h2.alloc [I 5]) (vU (List.replicate 30 5)) (List.replicate 30 5) (by rw[R9];omega) IX (xK _ _)
       obtain⟨h',ov',S',q1,q2,q3,q4⟩:=HO vA (List.replicate 30 5) (by rw[CL];omega) (by rw[R9];omega) al.1 he2
       rw[hat,hout]at q4
       refine wrap _ h' ov' S' ?_ q2 (al.2.trans q3) q4
       refine s7 (fn:=AP.f15) (e:=[(2,.bool lb)]) rfl rfl rfl ?_ rfl
       clear r1
       generalize vu vA=bf at *
       generalize vu (List.replicate 30 5)=bd at *
       generalize vU vA=vf at *
       generalize vU (List.replicate 30 5)=vd at *
       simp only[I]at *
       simp only[AP.f15,go_sem,a1,b1,←hlb,d0',d1',f1,m1,O2,I,r1',m2,q1]
     · rw[if_neg d1]
       have d1':((B:Int)==1)=false:=tK (by omega)
       by_cases d2:B=2
       · rw[if_pos d2]
         have d2':((B:Int)==2)=true:=tL (by omega)
         obtain⟨h',ov',S',q1,q2,q3,q4⟩:=IW b2 he2
         rw[hat,hout]at q4
         refine wrap _ h' ov' S' ?_ q2 q3 q4
         refine s7 (fn:=AP.f15) (e:=[(2,.bool lb)]) rfl rfl rfl ?_ rfl
         simp only[I]at *
         simp only[AP.f15,go_sem,a1,b1,←hlb,d0',d1',d2',q1]
       · rw[if_neg d2]
         have d2':((B:Int)==2)=false:=tK (by omega)
         obtain⟨h',q1,q2,q3⟩:=xg b2 700
         refine wrap (.error 700) h' ov _ ?_ q2 q3 ⟨by simp [vz,he2],by decide⟩
         refine s7 (fn:=AP.f15) (e:=[(2,.bool lb)]) rfl rfl rfl ?_ rfl
         simp only[I]at *
         simp only[AP.f15,go_sem,a1,b1,←hlb,d0',d1',d2',q1]
 · rw [if_neg hp]
   have hB0:B=0∧S2.e=700:=by
    by_cases q1:S.at_+1≤8* c.text.size
    · have e1:u5 c 1 S=(u0 c.text S.at_ 1,{S with at_:=S.at_+1}):=by rw[u5,if_pos q1]
      rw[e1]at hS1;dsimp only at hS1
      have e2:u5 c 2 S1=(0,{S1 with e:=700}):=by rw[u5,if_neg (by rw[hS1];show¬S.at_+1+2≤_;omega),vz,if_pos (by rw[hS1];exact he)]
      rw[e2]at hB hS2
      exact⟨hB,by rw[hS2]⟩
    · have e1:u5 c 1 S=(0,{S with e:=700}):=by rw[u5,if_neg q1,vz,if_pos he]
      rw[e1]at hS1;dsimp only at hS1
      have e2:u5 c 2 S1=(0,S1):=by rw[u5,if_neg (by rw[hS1];show¬S.at_+2≤_;omega),vz,if_neg (by rw[hS1];simp)]
      rw[e2]at hB hS2
      exact⟨hB,by rw[hS2,hS1]⟩
   have d0':((B:Int)==0)=true:=tL (by omega)
   have c0:(S2.e==0)=false:=tK (by rw[hB0.2];decide)
   refine⟨h2,ov,S2,lb, ?_,b2,fr2,hB0.2,by decide⟩
   refine s7 (fn:=AP.f15) (e:=[(2,.bool lb)]) rfl rfl rfl ?_ rfl
   simp only[I]at *
   simp only[AP.f15,go_sem,a1,b1,←hlb,d0',gs2,c0]
def vJ (t : ByteArray) (most : Int) : Nat → Nat → List Nat → Rs
 |0,_,_=>.error 700
 | f + 1, p, out => match vO t most p out with
   | .error k=>.error k
   | .ok (last,p2,o)=>if last then .ok (p2,o)else vJ t most f p2 o
theorem Gb {c:SC} {S:SS} {h:H} {ov:AV} (st:St c S h ov) (b:Bool) (hs:b=true∨S.e≠0):
 ∃e',Lp AP.A [7,8] AP.f7L0 [(7,.aD c.s 0),(8,.bool b)] h=some (.exit 0,e',h)∧look e' 7=.aD c.s 0:=by
 have gs:=st.gs
 refine⟨[(7,.aD c.s 0),(28,.bool false)],sM ?_,rfl⟩
 cases b with
 | true =>
   simp only[I]at *
   simp only[AP.f7L0,go_sem]
 | false =>
   have c2:(S.e==0)=false:=tK (by rcases hs with q|q;cases q;exact q)
   simp only[I]at *
   simp only[AP.f7L0,go_sem,gs,c2]
theorem yH {t:ByteArray} {most:Int}:∀{n p:Nat} {out:List Nat} {p2:Nat} {o:List Nat},vN t most n p out=.ok (p2,o)→p≤p2
 |0,p,out,p2,o,h=>by rw[vN]at h;cases h;exact uy _
 | n + 1, p, out, p2, o, h => by
   rw[vN]at h
   split at h
   · split at h
     · cases h
     · have:=yH h;omega
   · cases h
theorem wW {t : ByteArray} {most : Int} {ll dl : List Int} : ∀ {k p : Nat} {out : List Nat} {p2 : Nat} {o : List Nat}, vQ t most ll dl k p out = .ok (p2, o) → p < p2
 |0,_,_,_,_,h=>by cases h
 | k + 1, p, out, p2, o, h => by
   rw[vQ]at h
   split at h
   · cases h
   · rename_i y p1 hs
     have sb:=wO hs
     split at h
     · split at h
       · cases h
       · have:=wW h;omega
     · split at h
       · cases h;omega
       · split at h
         · rename_i p3 o3 hc
           have:=AJ hc
           have:=wW h;omega
         · cases h
theorem xE {t : ByteArray} {cl : List Int} {many : Nat} : ∀ {f : Nat} {acc : List Int} {p : Nat} {L : List Int} {p2 : Nat}, vM t cl many f acc p = some (L, p2) → p ≤ p2
 |0,_,_,_,_,h=>by cases h
 | f + 1, acc, p, L, p2, h => by
   rw[vM]at h
   split at h
   · split at h
     · cases h
     · rename_i y p1 hs
       have sb:=wO hs
       split at h
       · cases h
       · rename_i n times q hag
         have:=xE h
         have:p1≤q:=by
          unfold wz at hag
          repeat' split at hag
          all_goals first
           |(cases hag;done)
           |(have:=Sn (fun o=>o.map (·.2.2)) hag;simp only[RZ,um]at this;omega)
         omega
   · split at h
     · cases h
     · have:=Sn (fun o=>o.map (·.2)) h
       simp only[RZ,um]at this;omega
theorem xP {t : ByteArray} {most : Int} {p : Nat} {out : List Nat} {q : Bool × Nat × List Nat} (h : vO t most p out = .ok q) : p < q.2.1 := by
 unfold vO at h
 split at h
 · dsimp only at h
   have key:∀{r:Rs},(match r with| .ok q=>Except.ok (u0 t p 1==1,q.1,q.2)| .error k=>.error k)=Except.ok (ε:=Int) q→∃z,r=.ok z∧z.1=q.2.1:=by
    intro r h
    cases r with
    |ok z=>cases h;exact⟨z,rfl,rfl⟩
    |error k=>cases h
   obtain⟨z,h1,h2⟩:=key h
   rw[←h2]
   split at h1
   · unfold wk at h1
     dsimp only at h1
     split at h1
     · split at h1
       · have:=yH h1;omega
       · cases h1
     · cases h1
   · split at h1
     · have:=wW h1;omega
     · split at h1
       · unfold y6 at h1
         split at h1
         · dsimp only at h1
           split at h1
           · cases h1
           · split at h1
             · cases h1
             · rename_i L p2 hl
               split at h1
               · cases h1
               · have:=wW h1
                 have:p+3≤p2:=by
                  unfold xb at hl
                  split at hl
                  · dsimp only at hl
                    split at hl
                    · split at hl
                      · have:=xE hl;omega
                      · cases hl
                    · cases hl
                  · cases hl
                 omega
         · cases h1
       · cases h1
 · cases h
theorem Ga {c : SC} : ∀ (f : Nat) (S : SS) (h : H) (ov : AV), St c S h ov → S.e = 0 → 8 * c.text.size < S.at_ + f →
 ∃e' h' ov' S',Lp AP.A [7,8] AP.f7L0 [(7,.aD c.s 0),(8,.bool false)] h=some (.exit 0,e',h')∧look e' 7=.aD c.s 0∧St c S' h' ov'∧Fr c h ov h' ov'∧Fin (vJ c.text c.most f S.at_ S.out) S'
 |0,S,h,ov,st,he,hk=>by have:=st.yy;omega
 | f + 1, S, h, ov, st, he, hk => by
   have gs:=st.gs
   obtain⟨h1,ov1,S1,b,q1,q2,q3,q4⟩:=K4 st he
   have step:aL (aR AP.A) bp AP.f7L0 (ay [(7,.aD c.s 0),(8,.bool false)] [7,8]) h=some (.normal,[(7,.aD c.s 0),(8,.bool b)],h1):=by
    simp only[I]at *
    simp only[AP.f7L0,go_sem,gs,he,q1]
   rw[vJ]
   cases hb:vO c.text c.most S.at_ S.out with
   | error k =>
     rw[hb]at q4
     obtain⟨e',r1,r2⟩:=Gb q2 b (.inr (by rw[q4.1];exact q4.2))
     exact⟨e',h1,ov1,S1,sN step r1,r2,q2,q3,q4⟩
   | ok z =>
     obtain⟨last,p2,o⟩:=z
     rw[hb]at q4
     obtain⟨q5,q6⟩:=q4
     dsimp only at q5 q6 ⊢
     subst q5
     cases b with
     | true =>
       obtain⟨e',r1,r2⟩:=Gb q2 true (.inl rfl)
       exact⟨e',h1,ov1,S1,sN step r1,r2,q2,q3,q6⟩
     | false =>
       have hge:=xP hb
       dsimp only at hge
       subst q6
       obtain⟨e',h',ov',S',r1,r2,r3,r4,r5⟩:=Ga f _ h1 ov1 q2 rfl (by dsimp only;omega)
       exact⟨e',h',ov',S',sN step r1,r2,r3,q3.trans r4,r5⟩
def bytesOf (l:List Nat):ByteArray:=⟨(l.map UInt8.ofNat).toArray⟩
def vx (t:ByteArray) (most:Int):Except Int (List Nat×Nat):=
 if most<0∨8192<most then .error 700 else
 match vJ t most (8* t.size+1) 0 []with
 | .ok q=>.ok (q.2,(q.1+7)/8)
 | .error k=>.error k
def Om (r:Except Int (List Nat×Nat)):AV:=match r with
 | .ok q=>.bK [.str (bytesOf q.1),I q.2,I 0]
 | .error k=>.bK [.str ⟨#[]⟩,I 0,I k]
theorem EL:∀l:List Nat,kj (yi l)=some (l.map UInt8.ofNat)
 |[]=>rfl
 | x :: l => by
   have:yi (x::l)=.int .u8 x::yi l:=rfl
   rw[this,kj,EL l];simp
theorem KZ {h:H} {v:AV} {l:List Nat} (o:mZ h v (yi l)):tu h v (aS h 1 v)=some (.str (bytesOf l),h):=by
 rcases o with ⟨rfl,q⟩|⟨id,rfl,q,_⟩
 · have:l=[]:=by cases l with|nil=>rfl|cons _ _=>cases q
   subst this;rfl
 · simp only[aS,if_true,q,uv]
   rw[if_pos (by omega)]
   have:((yi l).drop 0).take ((yi l).length* 1)=yi l:=by rw[Sf,Nat.mul_one,List.take_length]
   rw[this]
   simp only[tu,uv,EL];rfl
theorem D6 (h : H) (hf : h.floor ≤ h.next) (t : ByteArray) (most : Int) (hs : t.size < 1125899906842624) : aR AP.A 7 [.str t, I most] h = some (Om (vx t most), h) := by
 unfold vx
 by_cases c1:most<0
 · rw[if_pos (.inl c1)]
   refine tE (fn:=AP.f7) (h2:=h.dH) (e:=[(4,.str ⟨#[]⟩),(5,I 0),(6,I 700)]) rfl rfl rfl ?_ rfl rfl
   simp only[I]at *
   simp only[AP.f7,go_sem,R0 c1]
 by_cases c2:8192<most
 · rw[if_pos (.inr c2)]
   refine tE (fn:=AP.f7) (h2:=h.dH) (e:=[(4,.str ⟨#[]⟩),(5,I 0),(6,I 700)]) rfl rfl rfl ?_ rfl rfl
   simp only[I]at *
   simp only[AP.f7,go_sem,RY c1,R0 c2]
 rw[if_neg (by omega)]
 obtain⟨h1,hh1⟩:∃g,g=h.dH.alloc [.str t,I 0]:=⟨_,rfl⟩
 obtain⟨h2,hh2⟩:∃g,g=h1.alloc [.aD h.next 0,.aP,I most,I 0]:=⟨_,rfl⟩
 have of1:=QI h.dH t
 rw[←hh1]at of1
 have n1:h1.next=h.next+1:=by rw[hh1];simp
 have st:St ⟨h.next+1,h.next,t,most⟩ ⟨0,[],0⟩ h2 .aP:=by
  refine⟨?_, ?_,.inl ⟨rfl,rfl⟩,by simp, ?_, ?_,by simp [AV.id?],by simp [AV.id?], ?_,hs,by simp,by simp;omega,by show most≤900000;omega⟩
  · rw[hh2,H.aW,if_pos n1.symm]
  · rw[hh2,H.aW,if_neg (by show h.next≠h1.next;omega),hh1,H.aW,if_pos (show h.next=h.dH.next from rfl)];rfl
  · rw[hh2,hh1];simp
  · rw[hh2,hh1];simp
  · rw[hh2,hh1];simp;omega
 obtain⟨e',h3,ov,S,q1,q2,q3,q4,q5⟩:=Ga (8* t.size+1) ⟨0,[],0⟩ h2 .aP st rfl (by show 8* t.size<0+(8* t.size+1);omega)
 have gs:=q3.gs
 have bx:∀e:Env,look e 18=.agg [.aD h.next 0,.aP,.int .i64 most,.int .i64 0]→aY e (.box 4 (.t 18))=some ([.aD h.next 0,.aP,.int .i64 most,.int .i64 0],fun i=>.aD i 0):=by
  intro e q;simp only[aY,rN,q];rfl
 have fl:dI [.cf,.aP,.int .i64 0,.int .i64 0] [(0,1,.aD h.next 0),(2,1,.int .i64 most)]=some [.aD h.next 0,.aP,.int .i64 most,.int .i64 0]:=rfl
 have hn:h.dH.next=h.next:=rfl
 dsimp only at q5
 cases hi:vJ t most (8* t.size+1) 0 []with
 | error k =>
   rw[hi]at q5
   have c3:(S.e !=0)=true:=tN (by rw[q5.1];exact q5.2)
   have hk:S.e=k:=q5.1
   refine tE (fn:=AP.f7) (h2:=h3) (e:=[(4,.str ⟨#[]⟩),(5,I 0),(6,I k)]) rfl rfl rfl ?_ rfl rfl
   simp only[I]at *
   simp only[AP.f7,go_sem,RY c1,RY c2,of1,hn,R3,SA,fl]
   rw[bx _ rfl]
   rw[hk]at gs c3
   simp only[go_sem,←hh2,n1,rK,q1,q2,gs,c3]
 | ok z =>
   obtain⟨p,o⟩:=z
   rw[hi]at q5
   simp only[Fin]at q5
   have c3:(S.e !=0)=false:=tM (by rw[q5])
   obtain⟨h4,a1,a2,a3⟩:=q3.align
   have gs4:=a2.gs
   have gr4:=a2.gr
   have at4:=Qz h4 h.next t _ gr4
   have hb:=KZ a2.own
   subst q5
   dsimp only at gs4 gr4 at4 hb a2 gs c3
   have hle:=a2.yy
   dsimp only at hle
   have qd:bj .quo (.int .i64 (((p+7)/8* 8:Nat):Int)) (.int .i64 8)=some (.int .i64 (((p+7)/8:Nat):Int)):=by
    rw[ry _ _ _ (by omega),show(8:Int)=((8:Nat):Int)from rfl,yJ,Nat.mul_div_cancel _ (by omega),u4 (by omega)]
   refine tE (fn:=AP.f7) (h2:=h4) (e:=[(4,.str (bytesOf o)),(5,I ((p+7)/8:Nat)),(6,I 0)]) rfl rfl rfl ?_ rfl rfl
   generalize (p+7)/8* 8=P8 at *
   generalize (p+7)/8=P at *
   simp only[I]at *
   simp only[AP.f7,go_sem,RY c1,RY c2,of1,hn,R3,SA,fl]
   rw[bx _ rfl]
   simp only[go_sem,←hh2,n1,rK,q1,q2,gs,c3,a1]
   rw[Jq (e':=[(6,.int .i64 0),(5,.int .i64 P),(4,.str (bytesOf o)),(55,.int .i64 P),(54,.int .i64 P8),(53,.aD h.next 0),(52,.aD (h.next+1) 0),(51,.aD (h.next+1) 0),(50,.aD (h.next+1) 0),(49,.str (bytesOf o)),(48,ov),(47,.aD (h.next+1) 1),(46,.aD (h.next+1) 0),(45,.aD (h.next+1) 0),(7,.aD (h.next+1) 0)]) (h':=h4) (gs:=[h4,h4])]
   · simp only[go_sem]
   · simp only[A6,E8,EW,Fg,Ff,bS.aO,go_sem,gs4,hb,at4,qd]
   · refine BG (fun k hk=> ?_) (BG (fun k hk=> ?_) rfl)
     · obtain rfl:k=1:=by simpa using hk
       refine BF (o:=⟨some 48,.load false 1 (.t 47),none⟩) (g:=h4) (h':=h4) (d:=48) (u:=ov) rfl rfl rfl rfl ?_ ?_
       · simp only[ai,go_sem,gs4]
       · simp only[go_sem]
         rcases a2.own with ⟨rfl,_⟩|⟨id,rfl,_⟩
         · rfl
         · exact Cu _ _ _ _
     · obtain rfl:k=1:=by simpa using hk
       refine BF (o:=⟨some 49,.kj (.t 48),none⟩) (g:=h4) (h':=h4) (d:=49) (u:=.str (bytesOf o)) rfl rfl rfl rfl ?_ ?_
       · simp only[ai,go_sem,hb]
       · simp only[go_sem,Ck]
theorem LY (h:H) (n:Int):aR AP.A 9 [I n] h=some (I n,h):=by
 refine tE (fn:=AP.f9) (h2:=h.dH) (e:=[(2,I n)]) rfl rfl rfl ?_ rfl rfl
 simp only[I]at *
 simp only[AP.f9,go_sem]
theorem JB {a b:Nat} (ha:a<256) (hb:b<256):bits .or .u8 (a:Int) (b:Int)=((a|||b:Nat):Int):=by
 have h3:a|||b<2^8:=Nat.or_lt_two_pow (by simpa using ha) (by simpa using hb)
 show IntKind.wrap .u8 (((BitVec.ofInt 8 (a:Int)|||BitVec.ofInt 8 (b:Int)).toNat:Nat):Int)=_
 rw[BitVec.toNat_or,xW 8 a (by omega),xW 8 b (by omega)]
 exact wrap_u8 (by simpa using h3)
def vS (out:List Nat) (i:Nat) (b:Nat):List Nat:=
 let o:=if i%8=0 then out++[0]else out
 o.set (i/8) (o.getD (i/8) 0|||b* 2^(i%8))
def wS:List Nat→Nat→List Nat→List Nat
 |[],_,out=>out
 |b::r,i,out=>wS r (i+1) (vS out i b)
theorem B4 {out:List Nat} {i b:Nat} (h:out.length=(i+7)/8):(vS out i b).length=(i+1+7)/8:=by
 unfold vS
 dsimp only
 rw[Sg]
 split
 · rw[uU,h];simp;omega
 · rw[h];omega
theorem B3 {out:List Nat} {i b:Nat} (hb:b≤1) (h:KQ out):KQ (vS out i b):=by
 have h1:KQ (if i%8=0 then out++[0]else out):=by
  split
  · intro x hx
    rcases Sj.1 hx with q|q
    · exact h x q
    · simp at q;omega
  · exact h
 intro x hx
 unfold vS at hx
 dsimp only at hx
 rcases Sq hx with q|q
 · exact h1 x q
 · subst q
   have h2:(if i%8=0 then out++[0]else out).getD (i/8) 0<2^8:=by
    rw[RT]
    cases hg:(if i%8=0 then out++[0]else out)[i/8]? with
    |none=>simp
    |some y=>simpa using h1 y (uE hg)
   have h3:b* 2^(i%8)<2^8:=by
    have:2^(i%8)≤2^7:=Sc (by omega) (by omega)
    have:b* 2^(i%8)≤1* 2^7:=Nat.mul_le_mul hb this
    omega
   simpa using Nat.or_lt_two_pow h2 h3
theorem mZ.set {h:H} {v:AV} {cs:List AV} (o:mZ h v cs) {i:Nat} (hi:i<cs.length) (x:AV):∃id,v=.aE id 0 cs.length 1∧h.get id=some cs∧h.floor≤id∧mZ (h.set id (cs.set i x)) v (cs.set i x):=by
 rcases o with ⟨rfl,rfl⟩|⟨id,rfl,h1,h2,h3⟩
 · simp at hi
 · exact⟨id,rfl,h1,h2,.inr ⟨id,by simp,by rw[H.de,if_pos rfl,h1];rfl,by simpa using h2,by intro e;apply h3;have:=Sn List.length e;simpa using this⟩⟩
structure OU (a t:ByteArray):Prop where
 sz:a.size≤t.size
 bit:∀i,i<8* a.size→wQ a i=wQ t i
theorem OU.val {a t:ByteArray} (h:OU a t) (p:Nat):∀n,p+n≤8* a.size→u0 a p n=u0 t p n
 |0,_=>rfl
 |n+1,hn=>by rw[u0,u0,h.val p n (by omega),h.bit (p+n) (by omega)]
section
variable {a t:ByteArray} (h:OU a t)
include h
theorem zR {l : List Int} : ∀ {k n v p : Nat} {y : Int} {p2 : Nat}, wY t l k n v p = some (y, p2) → wY a l k n v p = if p2 ≤ 8 * a.size then some (y, p2) else none
 |0,_,_,_,_,_,hs=>by cases hs
 | k + 1, n, v, p, y, p2, hs => by
   have hb:=wO hs
   rw[wY]at hs ⊢
   split at hs
   · by_cases hp:p+1≤8* a.size
     · rw[if_pos hp,h.val p 1 hp]
       split at hs
       · rename_i hf
         obtain⟨rfl,rfl⟩:=uj (uh hs)
         rw[if_pos hp]
       · exact zR hs
     · rw[if_neg hp,if_neg (by omega)]
   · cases hs
theorem Cs {l:List Int}:∀{k n v p:Nat} {r:Int×Nat},wY a l k n v p=some r→wY t l k n v p=some r
 |0,_,_,_,_,hs=>by cases hs
 | k + 1, n, v, p, r, hs => by
   rw[wY]at hs ⊢
   split at hs
   · rename_i hp
     have:=h.sz
     rw[if_pos (by omega),←h.val p 1 hp]
     split at hs
     · exact hs
     · exact Cs hs
   · cases hs
theorem Fv {y : Int} {acc : List Int} {p : Nat} {n : Int} {times p2 : Nat} (hs : wz t y acc p = some (n, times, p2)) (hp : p ≤ 8 * a.size) : wz a y acc p = if p2 ≤ 8 * a.size then some (n, times, p2) else none := by
 have key:∀(k:Nat) (f:Nat→Int×Nat),(if p+k≤8* t.size then some ((f (u0 t p k)).1,(f (u0 t p k)).2,p+k)else none)=some (n,times,p2)→(if p+k≤8* a.size then some ((f (u0 a p k)).1,(f (u0 a p k)).2,p+k)else none)=if p2≤8* a.size then some (n,times,p2)else none:=by
  intro k f hk
  split at hk
  · have h2:p+k=p2:=by have:=Sn (fun o=>o.map (·.2.2)) hk;simpa using this
    by_cases hpk:p+k≤8* a.size
    · rw[if_pos hpk,h.val p k hpk,if_pos (by omega)];exact hk
    · rw[if_neg hpk,if_neg (by omega)]
  · cases hk
 unfold wz at hs ⊢
 by_cases h16:y=16
 · rw[if_pos h16]at hs ⊢
   by_cases hn:acc=[]
   · rw[if_pos hn]at hs;cases hs
   · rw[if_neg hn]at hs ⊢
     exact key 2 (fun v=>(acc.getD (acc.length-1) 0,3+v)) hs
 · rw [if_neg h16] at hs ⊢
   by_cases h17:y=17
   · rw[if_pos h17]at hs ⊢
     exact key 3 (fun v=>(0,3+v)) hs
   · rw[if_neg h17]at hs ⊢
     by_cases h18:y=18
     · rw[if_pos h18]at hs ⊢
       exact key 7 (fun v=>(0,11+v)) hs
     · rw[if_neg h18]at hs ⊢
       have h2:p=p2:=by have:=Sn (fun o=>o.map (·.2.2)) hs;simpa using this
       rw[if_pos (by omega)];exact hs
theorem Iy {y : Int} {acc : List Int} {p : Nat} {r : Int × Nat × Nat} (hs : wz a y acc p = some r) : wz t y acc p = some r := by
 have hsz:=h.sz
 have key:∀(k:Nat) (f:Nat→Int×Nat),(if p+k≤8* a.size then some ((f (u0 a p k)).1,(f (u0 a p k)).2,p+k)else none)=some r→(if p+k≤8* t.size then some ((f (u0 t p k)).1,(f (u0 t p k)).2,p+k)else none)=some r:=by
  intro k f hk
  split at hk
  · rename_i hpk
    rw[if_pos (by omega),←h.val p k hpk];exact hk
  · cases hk
 unfold wz at hs ⊢
 by_cases h16:y=16
 · rw[if_pos h16]at hs ⊢
   by_cases hn:acc=[]
   · rw[if_pos hn]at hs;cases hs
   · rw[if_neg hn]at hs ⊢
     exact key 2 (fun v=>(acc.getD (acc.length-1) 0,3+v)) hs
 · rw [if_neg h16] at hs ⊢
   by_cases h17:y=17
   · rw[if_pos h17]at hs ⊢
     exact key 3 (fun v=>(0,3+v)) hs
   · rw[if_neg h17]at hs ⊢
     by_cases h18:y=18
     · rw[if_pos h18]at hs ⊢
       exact key 7 (fun v=>(0,11+v)) hs
     · rw[if_neg h18]at hs ⊢;exact hs
omit h in
theorem DO {y:Int} {acc:List Int} {p:Nat} {n:Int} {times p2:Nat} (hs:wz t y acc p=some (n,times,p2)):p≤p2:=by
 unfold wz at hs
 repeat' split at hs
 all_goals first
  |(cases hs;done)
  |(have:=Sn (fun o=>o.map (·.2.2)) hs;simp only[RZ,um]at this;omega)
theorem zW {cl : List Int} {many : Nat} : ∀ {f f' : Nat} {acc : List Int} {p : Nat} {L : List Int} {p2 : Nat}, vM t cl many f acc p = some (L, p2) → 8 * a.size < p + f' → p ≤ 8 * a.size → vM a cl many f' acc p = if p2 ≤ 8 * a.size then some (L, p2) else none
 |0,_,_,_,_,_,hs,_,_=>by cases hs
 | f + 1, f', acc, p, L, p2, hs, hf, hp => by
   obtain⟨g,rfl⟩:∃g,f'=g+1:=⟨f'-1,by omega⟩
   rw[vM]at hs ⊢
   by_cases hlt:acc.length<many
   · rw [if_pos hlt] at hs ⊢
     cases hz:wY t cl 15 1 0 p with
     |none=>rw[hz]at hs;cases hs
     | some q =>
       obtain⟨y,p1⟩:=q
       rw[hz]at hs
       have hb:=wO hz
       rw[zR h hz]
       cases hag:wz t y acc p1 with
       |none=>dsimp only at hs;rw[hag]at hs;cases hs
       | some r =>
         obtain⟨n,times,p3⟩:=r
         dsimp only at hs
         rw[hag]at hs
         dsimp only at hs
         have hge:=DO hag
         have hge2:=xE hs
         by_cases hp1:p1≤8* a.size
         · rw[if_pos hp1]
           dsimp only
           rw[Fv h hag hp1]
           by_cases hp3:p3≤8* a.size
           · rw[if_pos hp3]
             exact zW hs (by omega) hp3
           · rw[if_neg hp3,if_neg (by omega)]
         · rw[if_neg hp1,if_neg (by omega)]
   · rw[if_neg hlt]at hs ⊢
     by_cases hg:many<acc.length
     · rw[if_pos hg]at hs;cases hs
     · rw[if_neg hg]at hs ⊢
       obtain⟨rfl,rfl⟩:=uj (uh hs)
       rw[if_pos hp]
theorem BX {cl : List Int} {many : Nat} : ∀ {f f' : Nat} {acc : List Int} {p : Nat} {r : List Int × Nat}, vM a cl many f acc p = some r → 8 * t.size < p + f' → p ≤ 8 * t.size → vM t cl many f' acc p = some r
 |0,_,_,_,_,hs,_,_=>by cases hs
 | f + 1, f', acc, p, r, hs, hf, hp => by
   obtain⟨g,rfl⟩:∃g,f'=g+1:=⟨f'-1,by omega⟩
   have hsz:=h.sz
   rw[vM]at hs ⊢
   by_cases hlt:acc.length<many
   · rw [if_pos hlt] at hs ⊢
     cases hz:wY a cl 15 1 0 p with
     |none=>rw[hz]at hs;cases hs
     | some q =>
       obtain⟨y,p1⟩:=q
       rw[hz]at hs
       have hb:=wO hz
       rw[Cs h hz]
       cases hag:wz a y acc p1 with
       |none=>dsimp only at hs;rw[hag]at hs;cases hs
       | some r2 =>
         obtain⟨n,times,p3⟩:=r2
         dsimp only at hs ⊢
         rw[hag]at hs
         rw[Iy h hag]
         dsimp only at hs ⊢
         have hge:=DO hag
         refine BX hs (by omega) ?_
         have h3:p3≤8* a.size:=by
          unfold wz at hag
          repeat' split at hag
          all_goals first
           |(cases hag;done)
           |(have:=Sn (fun o=>o.map (·.2.2)) hag;simp only[RZ,um]at this;omega)
         omega
   · rw[if_neg hlt]at hs ⊢
     exact hs
theorem De:∀(r:List Int) (p:Nat) (o:List Int),p+3* r.length≤8* a.size→BA a r p o=BA t r p o
 |[],_,_,_=>rfl
 | s :: r, p, o, hp => by
   rw[RU]at hp
   rw[BA,BA,h.val p 3 (by omega),De r (p+3) _ (by omega)]
omit h in
theorem Dd (k:Nat) (hk:k≤19):(vn.take k).length=k:=by rw[Su];show min k 19=k;omega
theorem Hl {many p : Nat} {L : List Int} {p2 : Nat} (hs : xb t many p = some (L, p2)) : xb a many p = if p2 ≤ 8 * a.size then some (L, p2) else none := by
 unfold xb at hs ⊢
 dsimp only at hs ⊢
 have hv:=wE t p 4
 split at hs
 · split at hs
   · split at hs
     · rename_i h1 h2 h3
       have hge:=xE hs
       by_cases hp:p+4≤8* a.size
       · rw[if_pos hp,h.val p 4 hp]
         by_cases hp2:p+4+3* (u0 t p 4+4)≤8* a.size
         · rw[if_pos hp2,De h _ _ _ (by rw[Dd _ (by omega)];omega),if_pos h3]
           exact zW h hs (by omega) hp2
         · rw[if_neg hp2,if_neg (by omega)]
       · rw[if_neg hp,if_neg (by omega)]
     · cases hs
   · cases hs
 · cases hs
theorem J5 {many p : Nat} {r : List Int × Nat} (hs : xb a many p = some r) : xb t many p = some r := by
 have hsz:=h.sz
 unfold xb at hs ⊢
 dsimp only at hs ⊢
 have hv:=wE a p 4
 split at hs
 · rename_i hp
   split at hs
   · rename_i hp2
     split at hs
     · rename_i h3
       rw[if_pos (by omega),←h.val p 4 hp,if_pos (by omega),←De h _ _ _ (by rw[Dd _ (by omega)];omega),if_pos h3]
       exact BX h hs (by omega) (by omega)
     · cases hs
   · cases hs
 · cases hs
theorem Ca {most most' : Int} (hm : most ≤ most') : ∀ {n p : Nat} {out : List Nat} {p2 : Nat} {o : List Nat}, vN t most n p out = .ok (p2, o) → p ≤ 8 * a.size → vN a most' n p out = if p2 ≤ 8 * a.size then .ok (p2, o) else .error 700
 | 0, p, out, p2, o, hs, hp => by
   rw[vN]at hs ⊢
   cases hs
   rw[if_pos hp]
 | n + 1, p, out, p2, o, hs, hp => by
   rw[vN]at hs ⊢
   split at hs
   · split at hs
     · cases hs
     · have hge:=yH hs
       by_cases hp8:p+8≤8* a.size
       · rw[if_pos hp8,if_neg (by omega),h.val p 8 hp8]
         exact Ca hm hs hp8
       · rw[if_neg hp8,if_neg (by omega)]
   · cases hs
theorem Ey {most : Int} : ∀ {n p : Nat} {out : List Nat} {r : Nat × List Nat}, vN a most n p out = .ok r → vN t most n p out = .ok r
 |0,p,out,r,hs=>hs
 | n + 1, p, out, r, hs => by
   have hsz:=h.sz
   rw[vN]at hs ⊢
   split at hs
   · rename_i hp8
     split at hs
     · cases hs
     · rename_i hm
       rw[if_pos (by omega),if_neg hm,←h.val p 8 hp8]
       exact Ey hs
   · cases hs
theorem Fp {most most' : Int} (hm : most ≤ most') {p : Nat} {out : List Nat} {p2 : Nat} {o : List Nat} (hs : wk t most p out = .ok (p2, o)) : wk a most' p out = if p2 ≤ 8 * a.size then .ok (p2, o) else .error 700 := by
 unfold wk at hs ⊢
 dsimp only at hs ⊢
 generalize (p+7)/8* 8=q at *
 split at hs
 · split at hs
   · rename_i h1 h2
     have hge:=yH hs
     by_cases hp:q+32≤8* a.size
     · rw[if_pos hp,h.val q 16 (by omega),h.val (q+16) 16 (by omega),if_pos h2]
       exact Ca h hm hs hp
     · rw[if_neg hp,if_neg (by omega)]
   · cases hs
 · cases hs
theorem HB {most:Int} {p:Nat} {out:List Nat} {r:Nat×List Nat} (hs:wk a most p out=.ok r):wk t most p out=.ok r:=by
 have hsz:=h.sz
 unfold wk at hs ⊢
 dsimp only at hs ⊢
 generalize (p+7)/8* 8=q at *
 split at hs
 · rename_i hp
   split at hs
   · rename_i h2
     rw[if_pos (by omega),←h.val q 16 (by omega),←h.val (q+16) 16 (by omega),if_pos h2]
     exact Ey h hs
   · cases hs
 · cases hs
omit h in
theorem CI {most most':Int} (hm:most≤most') {d:Nat}:∀{n:Nat} {out o:List Nat},w9 most d n out=.ok o→w9 most' d n out=.ok o
 |0,out,o,hs=>hs
 | n + 1, out, o, hs => by
   rw[w9]at hs ⊢
   split at hs
   · cases hs
   · rw[if_neg (by omega)];exact CI hm hs
theorem Hc {most most' : Int} (hm : most ≤ most') {dl : List Int} {y p : Nat} {out : List Nat} {p2 : Nat} {o : List Nat} (hs : wZ t most dl y p out = .ok (p2, o)) : wZ a most' dl y p out = if p2 ≤ 8 * a.size then .ok (p2, o) else .error 700 := by
 unfold wZ at hs ⊢
 cases hl:lenOf y with
 |none=>rw[hl]at hs;cases hs
 | some le =>
   obtain⟨least,extra⟩:=le
   rw[hl]at hs
   dsimp only at hs ⊢
   split at hs
   · cases hz : wY t dl 15 1 0 (p + extra) with
     |none=>rw[hz]at hs;cases hs
     | some q =>
       obtain⟨z,p3⟩:=q
       rw[hz]at hs
       have hb:=wO hz
       cases hd:vw z.toNat with
       |none=>dsimp only at hs;rw[hd]at hs;cases hs
       | some lx =>
         obtain⟨ld,xd⟩:=lx
         dsimp only at hs
         rw[hd]at hs
         dsimp only at hs
         split at hs
         · rename_i h1 h2
           cases hc:w9 most (ld+u0 t p3 xd) (least+u0 t p extra) out with
           |error k=>rw[hc]at hs;cases hs
           | ok o2 =>
             rw[hc]at hs
             dsimp only at hs
             obtain⟨rfl,rfl⟩:p3+xd=p2∧o2=o:=by cases hs;exact⟨rfl,rfl⟩
             by_cases hp:p+extra≤8* a.size
             · rw[if_pos hp,zR h hz]
               by_cases hp3:p3≤8* a.size
               · rw[if_pos hp3]
                 dsimp only
                 rw[hd]
                 dsimp only
                 by_cases hp4:p3+xd≤8* a.size
                 · rw[h.val p3 xd hp4,if_pos ⟨hp4,h2.2⟩,h.val p extra hp,CI hm hc,if_pos hp4]
                 · rw[if_neg (fun q=>hp4 q.1),if_neg hp4]
               · rw[if_neg hp3,if_neg (by omega)]
             · rw[if_neg hp,if_neg (by omega)]
         · cases hs
   · cases hs
theorem JE {most : Int} {dl : List Int} {y p : Nat} {out : List Nat} {r : Nat × List Nat} (hs : wZ a most dl y p out = .ok r) : wZ t most dl y p out = .ok r := by
 have hsz:=h.sz
 unfold wZ at hs ⊢
 cases hl:lenOf y with
 |none=>rw[hl]at hs;cases hs
 | some le =>
   obtain⟨least,extra⟩:=le
   rw[hl]at hs
   dsimp only at hs ⊢
   split at hs
   · rename_i hp
     cases hz:wY a dl 15 1 0 (p+extra)with
     |none=>rw[hz]at hs;cases hs
     | some q =>
       obtain⟨z,p3⟩:=q
       rw[hz]at hs
       rw[if_pos (by omega),Cs h hz]
       cases hd:vw z.toNat with
       |none=>dsimp only at hs;rw[hd]at hs;cases hs
       | some lx =>
         obtain⟨ld,xd⟩:=lx
         dsimp only at hs ⊢
         rw[hd]at hs
         rw[hd]
         dsimp only at hs ⊢
         split at hs
         · rename_i h2
           rw[←h.val p3 xd h2.1,if_pos ⟨by omega,h2.2⟩,←h.val p extra hp];exact hs
         · cases hs
   · cases hs
theorem yj {most most' : Int} (hm : most ≤ most') {ll dl : List Int} : ∀ {k k' p : Nat} {out : List Nat} {p2 : Nat} {o : List Nat}, vQ t most ll dl k p out = .ok (p2, o) → 8 * a.size < p + k' → p ≤ 8 * a.size → vQ a most' ll dl k' p out = if p2 ≤ 8 * a.size then .ok (p2, o) else .error 700
 |0,_,_,_,_,_,hs,_,_=>by cases hs
 | k + 1, k', p, out, p2, o, hs, hk, hp => by
   obtain⟨g,rfl⟩:∃g,k'=g+1:=⟨k'-1,by omega⟩
   rw[vQ]at hs ⊢
   cases hz:wY t ll 15 1 0 p with
   |none=>rw[hz]at hs;cases hs
   | some q =>
     obtain⟨y,p1⟩:=q
     rw[hz]at hs
     have hb:=wO hz
     rw[zR h hz]
     dsimp only at hs
     by_cases c1:y<256
     · rw [if_pos c1] at hs
       split at hs
       · cases hs
       · have hge:=wW hs
         by_cases hp1:p1≤8* a.size
         · rw[if_pos hp1]
           dsimp only
           rw[if_pos c1,if_neg (by omega)]
           exact yj hm hs (by omega) hp1
         · rw[if_neg hp1,if_neg (by omega)]
     · rw [if_neg c1] at hs
       by_cases c2:y=256
       · rw[if_pos c2]at hs
         cases hs
         by_cases hp1:p2≤8* a.size
         · rw[if_pos hp1,if_pos hp1]
           dsimp only
           rw[if_neg c1,if_pos c2]
         · rw[if_neg hp1,if_neg hp1]
       · rw [if_neg c2] at hs
         cases hc:wZ t most dl y.toNat p1 out with
         |error e=>rw[hc]at hs;cases hs
         | ok q2 =>
           obtain⟨p3,o3⟩:=q2
           rw[hc]at hs
           dsimp only at hs
           have hge:=AJ hc
           have hge2:=wW hs
           by_cases hp1:p1≤8* a.size
           · rw[if_pos hp1]
             dsimp only
             rw[if_neg c1,if_neg c2,Hc h hm hc]
             by_cases hp3:p3≤8* a.size
             · rw[if_pos hp3]
               exact yj hm hs (by omega) hp3
             · rw[if_neg hp3,if_neg (by omega)]
           · rw[if_neg hp1,if_neg (by omega)]
theorem zG {most : Int} {ll dl : List Int} : ∀ {k k' p : Nat} {out : List Nat} {r : Nat × List Nat}, vQ a most ll dl k p out = .ok r → 8 * t.size < p + k' → vQ t most ll dl k' p out = .ok r
 |0,_,_,_,_,hs,_=>by cases hs
 | k + 1, k', p, out, r, hs, hk => by
   rw[vQ]at hs
   have hsz:=h.sz
   cases hz:wY a ll 15 1 0 p with
   |none=>rw[hz]at hs;cases hs
   | some q =>
     obtain⟨y,p1⟩:=q
     rw[hz]at hs
     have hb:=wO hz
     obtain⟨g,rfl⟩:∃g,k'=g+1:=⟨k'-1,by omega⟩
     rw[vQ,Cs h hz]
     dsimp only at hs ⊢
     by_cases c1:y<256
     · rw[if_pos c1]at hs ⊢
       split at hs
       · cases hs
       · rename_i hm
         rw[if_neg hm]
         exact zG hs (by omega)
     · rw [if_neg c1] at hs ⊢
       by_cases c2:y=256
       · rw[if_pos c2]at hs ⊢;exact hs
       · rw[if_neg c2]at hs ⊢
         cases hc:wZ a most dl y.toNat p1 out with
         |error e=>rw[hc]at hs;cases hs
         | ok q2 =>
           obtain⟨p3,o3⟩:=q2
           rw[hc]at hs
           have hge:=AJ hc
           rw[JE h hc]
           dsimp only at hs ⊢
           exact zG hs (by omega)
omit h in
theorem Gg {many p:Nat} {L:List Int} {p2:Nat} (hl:xb t many p=some (L,p2)):p≤p2:=by
 unfold xb at hl
 split at hl
 · dsimp only at hl
   split at hl
   · split at hl
     · have:=xE hl;omega
     · cases hl
   · cases hl
 · cases hl
theorem IV {most most' : Int} (hm : most ≤ most') {p : Nat} {out : List Nat} {p2 : Nat} {o : List Nat} (hs : y6 t most p out = .ok (p2, o)) : y6 a most' p out = if p2 ≤ 8 * a.size then .ok (p2, o) else .error 700 := by
 unfold y6 at hs ⊢
 dsimp only at hs ⊢
 split at hs
 · split at hs
   · cases hs
   · rename_i h1 h2
     split at hs
     · cases hs
     · rename_i L p3 hl
       split at hs
       · cases hs
       · rename_i h3
         have hge:=Gg hl
         have hge2:=wW hs
         by_cases hp:p+10≤8* a.size
         · rw[if_pos hp,h.val p 5 (by omega),h.val (p+5) 5 (by omega),if_neg h2,Hl h hl]
           by_cases hp3:p3≤8* a.size
           · rw[if_pos hp3]
             dsimp only
             rw[if_neg h3]
             exact yj h hm hs (by omega) hp3
           · rw[if_neg hp3,if_neg (by omega)]
         · rw[if_neg hp,if_neg (by omega)]
 · cases hs
theorem Lf {most : Int} {p : Nat} {out : List Nat} {r : Nat × List Nat} (hs : y6 a most p out = .ok r) : y6 t most p out = .ok r := by
 have hsz:=h.sz
 unfold y6 at hs ⊢
 dsimp only at hs ⊢
 split at hs
 · rename_i hp
   split at hs
   · cases hs
   · rename_i h2
     split at hs
     · cases hs
     · rename_i L p3 hl
       split at hs
       · cases hs
       · rename_i h3
         rw[if_pos (by omega),←h.val p 5 (by omega),←h.val (p+5) 5 (by omega),if_neg h2,J5 h hl]
         dsimp only
         rw[if_neg h3]
         exact zG h hs (by omega)
 · cases hs
theorem BM {most most' : Int} (hm : most ≤ most') {p : Nat} {out : List Nat} {b : Bool} {p2 : Nat} {o : List Nat} (hs : vO t most p out = .ok (b, p2, o)) : vO a most' p out = if p2 ≤ 8 * a.size then .ok (b, p2, o) else .error 700 := by
 have hge:=xP hs
 unfold vO at hs ⊢
 dsimp only at hs ⊢ hge
 split at hs
 · by_cases hp : p + 3 ≤ 8 * a.size
   · rw [if_pos hp, h.val p 1 (by omega), h.val (p + 1) 2 (by omega)]
     have key:∀{r r':Rs},(∀p3 o3,r=.ok (p3,o3)→r'=if p3≤8* a.size then .ok (p3,o3)else .error 700)→(match r with| .ok q=>Except.ok (ε:=Int) (u0 t p 1==1,q.1,q.2)| .error k=>.error k)=.ok (b,p2,o)→(match r' with| .ok q=>Except.ok (ε:=Int) (u0 t p 1==1,q.1,q.2)| .error k=>.error k)=if p2≤8* a.size then .ok (b,p2,o)else .error 700:=by
      intro r r' hr hk
      cases r with
      |error k=>cases hk
      | ok q =>
        obtain⟨p3,o3⟩:=q
        rw[hr p3 o3 rfl]
        rw[←hk]
        have h1:p3=p2:=by
         have:=Sn (fun r:Except Int (Bool×Nat×List Nat)=>match r with| .ok q=>q.2.1|_=>0) hk
         exact this
        rw[h1]
        by_cases hp2:p2≤8* a.size
        · rw[if_pos hp2,if_pos hp2]
        · rw[if_neg hp2,if_neg hp2]
     refine key (fun p3 o3 hr=> ?_) hs
     by_cases d0:u0 t (p+1) 2=0
     · rw[if_pos d0]at hr ⊢;exact Fp h hm hr
     · rw[if_neg d0]at hr ⊢
       by_cases d1:u0 t (p+1) 2=1
       · rw[if_pos d1]at hr ⊢;exact yj h hm hr (by omega) hp
       · rw[if_neg d1]at hr ⊢
         by_cases d2:u0 t (p+1) 2=2
         · rw[if_pos d2]at hr ⊢;exact IV h hm hr
         · rw[if_neg d2]at hr;cases hr
   · rw [if_neg hp]
     have:p+3≤p2:=by
      have h3:∀{r:Rs},(∀q,r=.ok q→p+3≤q.1)→(match r with| .ok q=>Except.ok (ε:=Int) (u0 t p 1==1,q.1,q.2)| .error k=>.error k)=.ok (b,p2,o)→p+3≤p2:=by
       intro r hr hk
       cases r with
       |error k=>cases hk
       |ok q=>have:=hr q rfl;cases hk;exact this
      refine h3 (fun q hr=> ?_) hs
      obtain⟨p3,o3⟩:=q
      by_cases d0:u0 t (p+1) 2=0
      · rw[if_pos d0]at hr
        unfold wk at hr
        dsimp only at hr
        split at hr
        · split at hr
          · have:=yH hr;dsimp only;omega
          · cases hr
        · cases hr
      · rw [if_neg d0] at hr
        by_cases d1:u0 t (p+1) 2=1
        · rw[if_pos d1]at hr;have:=wW hr;dsimp only;omega
        · rw [if_neg d1] at hr
          by_cases d2:u0 t (p+1) 2=2
          · rw [if_pos d2] at hr
            unfold y6 at hr
            split at hr
            · dsimp only at hr
              split at hr
              · cases hr
              · split at hr
                · cases hr
                · rename_i L p4 hl
                  split at hr
                  · cases hr
                  · have:=Gg hl;have:=wW hr;dsimp only;omega
            · cases hr
          · rw[if_neg d2]at hr;cases hr
     rw[if_neg (by omega)]
 · cases hs
theorem II {most : Int} {p : Nat} {out : List Nat} {r : Bool × Nat × List Nat} (hs : vO a most p out = .ok r) : vO t most p out = .ok r := by
 have hsz:=h.sz
 unfold vO at hs ⊢
 dsimp only at hs ⊢
 split at hs
 · rename_i hp
   rw[if_pos (by omega),←h.val p 1 (by omega),←h.val (p+1) 2 (by omega)]
   have key:∀{x x':Rs},(∀q,x=.ok q→x'=.ok q)→(match x with| .ok q=>Except.ok (ε:=Int) (u0 a p 1==1,q.1,q.2)| .error k=>.error k)=.ok r→(match x' with| .ok q=>Except.ok (ε:=Int) (u0 a p 1==1,q.1,q.2)| .error k=>.error k)=.ok r:=by
    intro x x' hr hk
    cases x with
    |error k=>cases hk
    |ok q=>rw[hr q rfl];exact hk
   refine key (fun q hr=> ?_) hs
   by_cases d0:u0 a (p+1) 2=0
   · rw[if_pos d0]at hr ⊢;exact HB h hr
   · rw[if_neg d0]at hr ⊢
     by_cases d1:u0 a (p+1) 2=1
     · rw[if_pos d1]at hr ⊢;exact zG h hr (by omega)
     · rw[if_neg d1]at hr ⊢
       by_cases d2:u0 a (p+1) 2=2
       · rw[if_pos d2]at hr ⊢;exact Lf h hr
       · rw[if_neg d2]at hr;cases hr
 · cases hs
omit h in
theorem Ac {most : Int} : ∀ {f p : Nat} {out : List Nat} {p2 : Nat} {o : List Nat}, vJ t most f p out = .ok (p2, o) → p ≤ p2
 |0,_,_,_,_,hs=>by cases hs
 | f + 1, p, out, p2, o, hs => by
   rw[vJ]at hs
   cases hb:vO t most p out with
   |error k=>rw[hb]at hs;cases hs
   | ok q =>
     obtain⟨b,p3,o3⟩:=q
     rw[hb]at hs
     have hge:=xP hb
     dsimp only at hs hge
     cases b with
     | true =>
       simp only[if_true]at hs
       have:=Sn (fun r:Rs=>match r with| .ok q=>q.1|_=>0) hs
       dsimp only at this
       omega
     | false =>
       simp only[uw,uV]at hs
       have:=Ac hs
       omega
theorem AS {most most' : Int} (hm : most ≤ most') : ∀ {f f' p : Nat} {out : List Nat} {p2 : Nat} {o : List Nat}, vJ t most f p out = .ok (p2, o) → 8 * a.size < p + f' → p ≤ 8 * a.size → vJ a most' f' p out = if p2 ≤ 8 * a.size then .ok (p2, o) else .error 700
 |0,_,_,_,_,_,hs,_,_=>by cases hs
 | f + 1, f', p, out, p2, o, hs, hf, hp => by
   obtain⟨g,rfl⟩:∃g,f'=g+1:=⟨f'-1,by omega⟩
   rw[vJ]at hs ⊢
   cases hb:vO t most p out with
   |error k=>rw[hb]at hs;cases hs
   | ok q =>
     obtain⟨b,p3,o3⟩:=q
     rw[hb]at hs
     have hge:=xP hb
     rw[BM h hm hb]
     dsimp only at hs hge
     cases b with
     | true =>
       simp only[if_true]at hs
       have h1:p3=p2:=by
        have:=Sn (fun r:Rs=>match r with| .ok q=>q.1|_=>0) hs
        exact this
       rw[←hs,h1]
       by_cases hp3:p2≤8* a.size
       · rw[if_pos hp3,if_pos hp3];simp
       · rw[if_neg hp3,if_neg hp3]
     | false =>
       simp only[uw,uV]at hs
       have hge2:p3≤p2:=Ac hs
       by_cases hp3:p3≤8* a.size
       · rw[if_pos hp3]
         simp only[uw,uV]
         exact AS hm hs (by omega) hp3
       · rw[if_neg hp3,if_neg (by omega)]
theorem CU {most : Int} : ∀ {f f' p : Nat} {out : List Nat} {r : Nat × List Nat}, vJ a most f p out = .ok r → 8 * t.size < p + f' → p ≤ 8 * t.size → vJ t most f' p out = .ok r
 |0,_,_,_,_,hs,_,_=>by cases hs
 | f + 1, f', p, out, r, hs, hf, hp => by
   obtain⟨g,rfl⟩:∃g,f'=g+1:=⟨f'-1,by omega⟩
   rw[vJ]at hs ⊢
   cases hb:vO a most p out with
   |error k=>rw[hb]at hs;cases hs
   | ok q =>
     obtain⟨b,p3,o3⟩:=q
     rw[hb]at hs
     have hge:=xP hb
     have hbt:=II h hb
     rw[hbt]
     dsimp only at hs hge ⊢
     cases b with
     |true=>exact hs
     | false =>
       simp only[uw,uV]at hs ⊢
       by_cases hp3:p3≤8* t.size
       · exact CU hs (by omega) hp3
       ·
        exfalso
        have:p3≤8* t.size:=by
         have hd:=BM (a:=t) (t:=t) ⟨uy _,fun _ _=>rfl⟩ (Ss most) hbt
         rw[hbt]at hd
         by_cases q:p3≤8* t.size
         · exact q
         · rw[if_neg q]at hd;cases hd
        exact hp3 this
end
theorem Ar {t:ByteArray} {most:Int}:∀{n p:Nat} {out:List Nat} {p2:Nat} {o:List Nat},vN t most n p out=.ok (p2,o)→out.length≤o.length
 |0,p,out,p2,o,hs=>by rw[vN]at hs;cases hs;exact uy _
 | n + 1, p, out, p2, o, hs => by
   rw[vN]at hs
   split at hs
   · split at hs
     · cases hs
     · have:=Ar hs;simp at this;omega
   · cases hs
theorem Bj {most:Int} {d:Nat}:∀{n:Nat} {out o:List Nat},w9 most d n out=.ok o→out.length≤o.length
 |0,out,o,hs=>by rw[w9]at hs;cases hs;exact uy _
 | n + 1, out, o, hs => by
   rw[w9]at hs
   split at hs
   · cases hs
   · have:=Bj hs;simp at this;omega
variable {t:ByteArray} {most most':Int}
theorem Bd : ∀ {n p : Nat} {out : List Nat} {p2 : Nat} {o : List Nat}, vN t most n p out = .ok (p2, o) → (out.length : Int) ≤ most' → vN t most' n p out = if (o.length : Int) ≤ most' then .ok (p2, o) else .error 701
 | 0, p, out, p2, o, hs, hm => by
   rw[vN]at hs ⊢
   have h2:out=o:=by
    have:=Sn (fun r:Rs=>match r with| .ok q=>q.2|_=>[]) hs
    exact this
   subst h2
   rw[if_pos hm];exact hs
 | n + 1, p, out, p2, o, hs, hm => by
   rw[vN]at hs ⊢
   split at hs
   · rename_i hp
     split at hs
     · cases hs
     · rw[if_pos hp]
       have hlen:=Ar hs
       simp only[uU,Sr]at hlen
       by_cases hle:most'≤(out.length:Int)
       · rw[if_pos hle,if_neg (by omega)]
       · rw[if_neg hle]
         exact Bd hs (by simp;omega)
   · cases hs
theorem BQ {d : Nat} : ∀ {n : Nat} {out o : List Nat}, w9 most d n out = .ok o → (out.length : Int) ≤ most' → w9 most' d n out = if (o.length : Int) ≤ most' then .ok o else .error 701
 | 0, out, o, hs, hm => by
   rw[w9]at hs ⊢
   cases hs
   rw[if_pos hm]
 | n + 1, out, o, hs, hm => by
   rw[w9]at hs ⊢
   split at hs
   · cases hs
   · have hlen:=Bj hs
     simp only[uU,Sr]at hlen
     by_cases hle:most'≤(out.length:Int)
     · rw[if_pos hle,if_neg (by omega)]
     · rw[if_neg hle]
       exact BQ hs (by simp;omega)
theorem FU {dl : List Int} {y p : Nat} {out : List Nat} {p2 : Nat} {o : List Nat} (hs : wZ t most dl y p out = .ok (p2, o)) (hm : (out.length : Int) ≤ most') : (wZ t most' dl y p out = if (o.length : Int) ≤ most' then .ok (p2, o) else .error 701) ∧ out.length ≤ o.length := by
 unfold wZ at hs ⊢
 cases hl:lenOf y with
 |none=>rw[hl]at hs;cases hs
 | some le =>
   obtain⟨least,extra⟩:=le
   rw[hl]at hs
   dsimp only at hs ⊢
   split at hs
   · rename_i hp
     rw[if_pos hp]
     cases hz:wY t dl 15 1 0 (p+extra)with
     |none=>rw[hz]at hs;cases hs
     | some q =>
       obtain⟨z,p3⟩:=q
       rw[hz]at hs
       dsimp only at hs ⊢
       cases hd:vw z.toNat with
       |none=>rw[hd]at hs;cases hs
       | some lx =>
         obtain⟨ld,xd⟩:=lx
         rw[hd]at hs
         dsimp only at hs ⊢
         split at hs
         · rename_i h2
           rw[if_pos h2]
           cases hc:w9 most (ld+u0 t p3 xd) (least+u0 t p extra) out with
           |error k=>rw[hc]at hs;cases hs
           | ok o2 =>
             rw[hc]at hs
             dsimp only at hs
             have h3:o2=o:=by
              have:=Sn (fun r:Rs=>match r with| .ok q=>q.2|_=>[]) hs
              exact this
             subst h3
             have hlen:=Bj hc
             rw[BQ hc hm]
             refine⟨?_,hlen⟩
             by_cases hle:(o2.length:Int)≤most'
             · rw[if_pos hle,if_pos hle];exact hs
             · rw[if_neg hle,if_neg hle]
         · cases hs
   · cases hs
theorem wV {ll dl : List Int} : ∀ {k p : Nat} {out : List Nat} {p2 : Nat} {o : List Nat} {most' : Int}, vQ t most ll dl k p out = .ok (p2, o) → (out.length : Int) ≤ most' → (vQ t most' ll dl k p out = if (o.length : Int) ≤ most' then .ok (p2, o) else .error 701) ∧ out.length ≤ o.length
 |0,_,_,_,_,_,hs,_=>by cases hs
 | k + 1, p, out, p2, o, most', hs, hm => by
   rw[vQ]at hs ⊢
   cases hz:wY t ll 15 1 0 p with
   |none=>rw[hz]at hs;cases hs
   | some q =>
     obtain⟨y,p1⟩:=q
     rw[hz]at hs
     dsimp only at hs ⊢
     by_cases c1:y<256
     · rw [if_pos c1] at hs ⊢
       split at hs
       · cases hs
       · by_cases hle:most'≤(out.length:Int)
         · rw[if_pos hle]
           have hlen:(out++[y.toNat]).length≤o.length:=(wV (most':=((out++[y.toNat]).length:Int)) hs (Ss _)).2
           simp only[uU,Sr]at hlen
           exact⟨by rw[if_neg (by omega)],by omega⟩
         · rw[if_neg hle]
           have:=wV (most':=most') hs (by simp;omega)
           refine⟨this.1, ?_⟩
           have h2:=this.2
           simp only[uU,Sr]at h2
           omega
     · rw [if_neg c1] at hs ⊢
       by_cases c2:y=256
       · rw[if_pos c2]at hs ⊢
         have h3:out=o:=by
          have:=Sn (fun r:Rs=>match r with| .ok q=>q.2|_=>[]) hs
          exact this
         subst h3
         rw[if_pos hm]
         exact⟨hs,uy _⟩
       · rw [if_neg c2] at hs ⊢
         cases hc:wZ t most dl y.toNat p1 out with
         |error e=>rw[hc]at hs;cases hs
         | ok q2 =>
           obtain⟨p3,o3⟩:=q2
           rw[hc]at hs
           dsimp only at hs
           have hb:=FU (most':=most') hc hm
           rw[hb.1]
           by_cases hle:(o3.length:Int)≤most'
           · rw[if_pos hle]
             have:=wV (most':=most') hs hle
             exact⟨this.1,uS hb.2 this.2⟩
           · rw[if_neg hle]
             have hlen:o3.length≤o.length:=(wV (most':=(o3.length:Int)) hs (Ss _)).2
             exact⟨by rw[if_neg (by omega)],by omega⟩
theorem DN {p:Nat} {out:List Nat} {p2:Nat} {o:List Nat} (hs:wk t most p out=.ok (p2,o)) (hm:(out.length:Int)≤most'):(wk t most' p out=if(o.length:Int)≤most' then .ok (p2,o)else .error 701)∧out.length≤o.length:=by
 unfold wk at hs ⊢
 dsimp only at hs ⊢
 split at hs
 · rename_i h1
   split at hs
   · rename_i h2
     rw[if_pos h1,if_pos h2]
     exact⟨Bd hs hm,Ar hs⟩
   · cases hs
 · cases hs
theorem Hf {p : Nat} {out : List Nat} {p2 : Nat} {o : List Nat} (hs : y6 t most p out = .ok (p2, o)) (hm : (out.length : Int) ≤ most') : (y6 t most' p out = if (o.length : Int) ≤ most' then .ok (p2, o) else .error 701) ∧ out.length ≤ o.length := by
 unfold y6 at hs ⊢
 dsimp only at hs ⊢
 split at hs
 · rename_i h1
   rw[if_pos h1]
   split at hs
   · cases hs
   · rename_i h2
     rw[if_neg h2]
     split at hs
     · cases hs
     · rename_i L p3 hl
       split at hs
       · cases hs
       · rename_i h3
         rw[if_neg h3]
         exact wV hs hm
 · cases hs
theorem EO {p : Nat} {out : List Nat} {b : Bool} {p2 : Nat} {o : List Nat} (hs : vO t most p out = .ok (b, p2, o)) (hm : (out.length : Int) ≤ most') : (vO t most' p out = if (o.length : Int) ≤ most' then .ok (b, p2, o) else .error 701) ∧ out.length ≤ o.length := by
 unfold vO at hs ⊢
 dsimp only at hs ⊢
 split at hs
 · rename_i hp
   rw[if_pos hp]
   have key:∀{r r':Rs},(∀p3 o3,r=.ok (p3,o3)→(r'=if(o3.length:Int)≤most' then .ok (p3,o3)else .error 701)∧out.length≤o3.length)→(match r with| .ok q=>Except.ok (ε:=Int) (u0 t p 1==1,q.1,q.2)| .error k=>.error k)=.ok (b,p2,o)→((match r' with| .ok q=>Except.ok (ε:=Int) (u0 t p 1==1,q.1,q.2)| .error k=>.error k)=if(o.length:Int)≤most' then .ok (b,p2,o)else .error 701)∧out.length≤o.length:=by
    intro r r' hr hk
    cases r with
    |error k=>cases hk
    | ok q =>
      obtain⟨p3,o3⟩:=q
      have h1:=hr p3 o3 rfl
      have h2:o3=o:=by
       have:=Sn (fun r:Except Int (Bool×Nat×List Nat)=>match r with| .ok q=>q.2.2|_=>[]) hk
       exact this
      rw[h1.1,←hk,←h2]
      refine⟨?_,h1.2⟩
      by_cases hle:(o3.length:Int)≤most'
      · rw[if_pos hle,if_pos hle]
      · rw[if_neg hle,if_neg hle]
   refine key (fun p3 o3 hr=> ?_) hs
   by_cases d0:u0 t (p+1) 2=0
   · rw[if_pos d0]at hr ⊢;exact DN hr hm
   · rw[if_neg d0]at hr ⊢
     by_cases d1:u0 t (p+1) 2=1
     · rw[if_pos d1]at hr ⊢;exact wV hr hm
     · rw[if_neg d1]at hr ⊢
       by_cases d2:u0 t (p+1) 2=2
       · rw[if_pos d2]at hr ⊢;exact Hf hr hm
       · rw[if_neg d2]at hr;cases hr
 · cases hs
theorem xC : ∀ {f p : Nat} {out : List Nat} {p2 : Nat} {o : List Nat} {most' : Int}, vJ t most f p out = .ok (p2, o) → (out.length : Int) ≤ most' → (vJ t most' f p out = if (o.length : Int) ≤ most' then .ok (p2, o) else .error 701) ∧ out.length ≤ o.length
 |0,_,_,_,_,_,hs,_=>by cases hs
 | f + 1, p, out, p2, o, most', hs, hm => by
   rw[vJ]at hs ⊢
   cases hb:vO t most p out with
   |error k=>rw[hb]at hs;cases hs
   | ok q =>
     obtain⟨b,p3,o3⟩:=q
     rw[hb]at hs
     have h1:=EO (most':=most') hb hm
     rw[h1.1]
     dsimp only at hs
     cases b with
     | true =>
       simp only[if_true]at hs
       have h2:o3=o:=by
        have:=Sn (fun r:Rs=>match r with| .ok q=>q.2|_=>[]) hs
        exact this
       subst h2
       refine⟨?_,h1.2⟩
       by_cases hle:(o3.length:Int)≤most'
       · rw[if_pos hle,if_pos hle];simp only[if_true];exact hs
       · rw[if_neg hle,if_neg hle]
     | false =>
       simp only[uw,uV]at hs
       by_cases hle:(o3.length:Int)≤most'
       · rw[if_pos hle]
         simp only[uw,uV]
         have:=xC (most':=most') hs hle
         exact⟨this.1,uS h1.2 this.2⟩
       · rw[if_neg hle]
         have hlen:o3.length≤o.length:=(xC (most':=(o3.length:Int)) hs (Ss _)).2
         exact⟨by rw[if_neg (by omega)],by have:=h1.2;omega⟩
theorem BU {o : List Nat} {took : Nat} (hs : vx t most = .ok (o, took)) : ∃ p, vJ t most (8 * t.size + 1) 0 [] = .ok (p, o) ∧ took = (p + 7) / 8 ∧ 0 < p ∧ p ≤ 8 * t.size ∧ (o.length : Int) ≤ most ∧ 0 ≤ most ∧ most ≤ 8192 := by
 unfold vx at hs
 split at hs
 · cases hs
 · rename_i h1
   cases hi:vJ t most (8* t.size+1) 0 []with
   |error k=>rw[hi]at hs;cases hs
   | ok q =>
     obtain⟨p,o2⟩:=q
     rw[hi]at hs
     dsimp only at hs
     have h2:o2=o∧(p+7)/8=took:=by
      have:=Sn (fun r:Except Int (List Nat×Nat)=>match r with| .ok q=>q|_=>([],0)) hs
      exact uj this
     obtain⟨rfl,rfl⟩:=h2
     have hd:=AS (a:=t) (t:=t) ⟨uy _,fun _ _=>rfl⟩ (Ss most) hi (f':=8* t.size+1) (by omega) (Nat.zero_le _)
     rw[hi]at hd
     have hp:p≤8* t.size:=by
      by_cases q:p≤8* t.size
      · exact q
      · rw[if_neg q]at hd;cases hd
     have hb:=(xC (most':=most) hi (by simp;omega)).1
     rw[hi]at hb
     have hl:(o2.length:Int)≤most:=by
      by_cases q:(o2.length:Int)≤most
      · exact q
      · rw[if_neg q]at hb;cases hb
     have hp0:0<p:=by
      rw[vJ]at hi
      cases hbk:vO t most 0 []with
      |error k=>rw[hbk]at hi;cases hi
      | ok z =>
        obtain⟨b,p3,o3⟩:=z
        rw[hbk]at hi
        have hge:=xP hbk
        dsimp only at hi hge
        cases b with
        | true =>
          simp only[if_true]at hi
          have:=Sn (fun r:Rs=>match r with| .ok q=>q.1|_=>0) hi
          dsimp only at this
          omega
        | false =>
          simp only[uw,uV]at hi
          have:=Ac hi
          omega
     exact⟨p,rfl,rfl,hp0,hp,hl,by omega,by omega⟩
theorem DK {a:ByteArray} (hp:OU a t) {o:List Nat} {took:Nat} (hs:vx a most=.ok (o,took)):vx t most=.ok (o,took):=by
 obtain⟨p,h1,h2,h3,h4,h5,h6,h7⟩:=BU hs
 have hu:=CU hp h1 (f':=8* t.size+1) (by omega) (Nat.zero_le _)
 unfold vx
 rw[if_neg (by omega),hu]
 dsimp only;rw[h2]
theorem DJ {o:List Nat} {took:Nat} (hs:vx t most=.ok (o,took)) (h0:0≤most') (hm:most'<(o.length:Int)):vx t most'=.error 701:=by
 obtain⟨p,h1,h2,h3,h4,h5,h6,h7⟩:=BU hs
 have hb:=(xC (most':=most') h1 (by simpa using h0)).1
 unfold vx
 rw[if_neg (by omega),hb,if_neg (by omega)]
theorem Hx (a b:ByteArray):OU a (a++b):=by
 refine⟨by rw[ByteArray.size_append];omega,fun i hi=> ?_⟩
 unfold wQ
 have h1:i/8<a.size:=by omega
 rw[getElem?_pos a _ h1,getElem?_pos (a++b) _ (by rw[ByteArray.size_append];omega),ByteArray.getElem_append_left h1]
theorem vZ (l:List Nat):(bytesOf l).size=l.length:=by
 show(l.map UInt8.ofNat).toArray.size=_
 simp
structure FC where
 f:Nat
 text:ByteArray
 most:Int
structure Ft (c:FC) (S:SS) (h:H) (ov:AV):Prop where
 gf:h.get c.f=some [.str c.text,I S.at_,ov,I c.most,I S.e]
 own:mZ h ov (yi S.out)
 ff:h.floor≤c.f
 of:ov.id?≠some c.f
 nx:h.floor≤h.next
 sz:c.text.size<1125899906842624
 yy:S.at_≤8* c.text.size
 ol:(S.out.length:Int)≤c.most
 ml:c.most≤900000
structure FF (c:FC) (h:H) (ov:AV) (h':H) (ov':AV):Prop where
 fl:h'.floor=h.floor
 nx:h.next≤h'.next
 GZ:∀id,id<h.next→id≠c.f→ov.id?≠some id→h'.get id=h.get id
 nb:∀i,ov'.id?=some i→ov.id?=some i∨h.next≤i
theorem FF.refl (c:FC) (h:H) (ov:AV):FF c h ov h ov:=⟨rfl,uy _,fun _ _ _ _=>rfl,fun _ q=>.inl q⟩
theorem FF.trans {c:FC} {h1 h2 h3:H} {o1 o2 o3:AV} (a:FF c h1 o1 h2 o2) (b:FF c h2 o2 h3 o3):FF c h1 o1 h3 o3:=by
 refine⟨b.fl.trans a.fl,uS a.nx b.nx,fun id h4 h5 h7=> ?_,fun i hi=> ?_⟩
 · rw[b.GZ id (Nat.lt_of_lt_of_le h4 a.nx) h5 (fun q=> ?_),a.GZ id h4 h5 h7]
   rcases a.nb id q with q|q
   · exact h7 q
   · omega
 · rcases b.nb i hi with q|q
   · exact a.nb i q
   · exact .inr (uS a.nx q)
theorem Ft.vP {c:FC} {S:SS} {h h':H} {ov:AV} (st:Ft c S h ov) (hf:h'.floor=h.floor) (hn:h.next≤h'.next) (hg:∀i,i=c.f∨ov.id?=some i→h'.get i=h.get i):Ft c S h' ov:=
 ⟨by rw[hg _ (.inl rfl)];exact st.gf,st.own.mono hf fun i hi=>hg i (.inr hi),by rw[hf];exact st.ff,st.of,by rw[hf];exact uS st.nx hn,st.sz,st.yy,st.ol,st.ml⟩
theorem Ft.lt {c:FC} {S:SS} {h:H} {ov:AV} (st:Ft c S h ov) {i:Nat} (hi:i=c.f∨ov.id?=some i):i<h.next:=by
 rcases hi with rfl|hi
 · exact h.lt _ _ st.gf
 · exact st.own.lt hi
theorem Ft.alloc {c:FC} {S:SS} {h:H} {ov:AV} (st:Ft c S h ov) (cs:List AV):Ft c S (h.alloc cs) ov∧FF c h ov (h.alloc cs) ov:=by
 refine⟨st.vP (by simp) (by simp) fun i hi=> ?_,⟨by simp,by simp,fun id h1 _ _=> ?_,fun _ q=>.inl q⟩⟩
 · have:=st.lt hi;rw[H.aW,if_neg (by omega)]
 · rw[H.aW,if_neg (by omega)]
structure RO (h0 h:H) (b:Nat) (D:Nat→AV) (k:Nat) (p S0:List Int):Prop where
 get:h.get b=some (m0 17 D)
 fl:h.floor=h0.next
 fb:h0.next≤b
 nx:h.floor≤h.next
 low:∀id,id<h0.next→h.get id=h0.get id
 ck:D k=I (wK p k)
 own:mZ h (D 16) (ints (S0++syms p k))
 nb:(D 16).id?≠some b
theorem K8 (n:Nat):wK [] n=0:=by unfold wK;split<;>rfl
theorem zQ {h:H} {v:AV} {l:List Int} {fl:Nat} (o:mZ h v (ints l)) (hf:fl≤h.floor) (hl:l≠[]):snap h.get fl 16 true v=some (vU l):=by
 rcases o with ⟨_,q⟩|⟨id,rfl,q,h2,_⟩
 · exact absurd (List.map_eq_nil_iff.1 q) hl
 · unfold snap
   rw[if_neg (by omega),q,uv,if_pos (by omega)]
   rw[Sf,Nat.mul_one,List.take_length,xz]
   simp [vU]
theorem C5 (p:List Int) (x:Int):∀n:Nat,vo (p++[x]) n=vo p n-(if 1≤x∧x≤n then 2^(n-x.toNat)else 0)
 | 0 => by
   rw[if_neg (by omega)];simp [vo]
 | n + 1 => by
   have e1:vo (p++[x]) (n+1)=vo (p++[x]) n* 2-wK (p++[x]) (n+1):=rfl
   have e2:vo p (n+1)=vo p n* 2-wK p (n+1):=rfl
   rw[e1,e2,C5 p x n,zf]
   by_cases h1:x=((n+1:Nat):Int)
   · rw[if_neg (by omega),if_pos ⟨by omega,h1⟩,if_pos (by omega)]
     rw[show n+1-x.toNat=0 by omega];simp;omega
   · rw[if_neg (show¬(n+1≠0∧x=((n+1:Nat):Int))from fun q=>h1 q.2)]
     by_cases h2:1≤x∧x≤(n:Int)
     · rw[if_pos h2,if_pos (by omega),show n+1-x.toNat=(n-x.toNat)+1 by omega,Int.pow_succ];omega
     · rw[if_neg h2,if_neg (by omega)];omega
abbrev E7 (k:Int):Prop:=k=700∨k=701
theorem Ds {t:ByteArray} {most k:Int}:∀{n p:Nat} {out:List Nat},vN t most n p out=.error k→E7 k
 |0,p,out,h=>by cases h
 | n + 1, p, out, h => by
   unfold vN at h
   split at h
   · split at h
     · cases h;exact .inr rfl
     · exact Ds h
   · cases h;exact .inl rfl
theorem GL {t:ByteArray} {most k:Int} {p:Nat} {out:List Nat} (h:wk t most p out=.error k):E7 k:=by
 unfold wk at h
 dsimp only at h
 split at h
 · split at h
   · exact Ds h
   · cases h;exact .inl rfl
 · cases h;exact .inl rfl
theorem DU {most k:Int} {d:Nat}:∀{n:Nat} {out:List Nat},w9 most d n out=.error k→E7 k
 |0,out,h=>by cases h
 | n + 1, out, h => by
   unfold w9 at h
   split at h
   · cases h;exact .inr rfl
   · exact DU h
theorem IM {t : ByteArray} {most k : Int} {dl : List Int} {y p : Nat} {out : List Nat} (h : wZ t most dl y p out = .error k) : E7 k := by
 unfold wZ at h
 split at h
 · cases h;exact .inl rfl
 · split at h
   · split at h
     · cases h;exact .inl rfl
     · split at h
       · cases h;exact .inl rfl
       · split at h
         · split at h
           · cases h
           · rename_i q;cases h;exact DU q
         · cases h;exact .inl rfl
   · cases h;exact .inl rfl
theorem yR {t : ByteArray} {most k : Int} {ll dl : List Int} : ∀ {n p : Nat} {out : List Nat}, vQ t most ll dl n p out = .error k → E7 k
 |0,p,out,h=>by cases h;exact .inl rfl
 | n + 1, p, out, h => by
   unfold vQ at h
   split at h
   · cases h;exact .inl rfl
   · split at h
     · split at h
       · cases h;exact .inr rfl
       · exact yR h
     · split at h
       · cases h
       · split at h
         · exact yR h
         · rename_i q;cases h;exact IM q
theorem JK {t : ByteArray} {most k : Int} {p : Nat} {out : List Nat} (h : y6 t most p out = .error k) : E7 k := by
 unfold y6 at h
 dsimp only at h
 split at h
 · split at h
   · cases h;exact .inl rfl
   · split at h
     · cases h;exact .inl rfl
     · split at h
       · cases h;exact .inl rfl
       · exact yR h
 · cases h;exact .inl rfl
theorem G8 {t : ByteArray} {most k : Int} {p : Nat} {out : List Nat} (h : vO t most p out = .error k) : E7 k := by
 unfold vO at h
 dsimp only at h
 split at h
 · split at h
   · cases h
   · rename_i q
     cases h
     split at q
     · exact GL q
     · split at q
       · exact yR q
       · split at q
         · exact JK q
         · cases q;exact .inl rfl
 · cases h;exact .inl rfl
theorem BT {t:ByteArray} {most k:Int}:∀{n p:Nat} {out:List Nat},vJ t most n p out=.error k→E7 k
 | 0, p, out, h => by
   unfold vJ at h
   cases h;exact .inl rfl
 | n + 1, p, out, h => by
   unfold vJ at h
   split at h
   · rename_i q;cases h;exact G8 q
   · split at h
     · cases h
     · exact BT h
theorem EY {t:ByteArray} {most k:Int} (h:vx t most=.error k):E7 k:=by
 unfold vx at h
 split at h
 · cases h;exact .inl rfl
 · split at h
   · cases h
   · rename_i q;cases h;exact BT q
def Be (l:List Nat) (i j:Nat):List Nat:=(l.set i (l.getD j 0)).set j (l.getD i 0)
theorem xO (l:List Nat) (i j:Nat):(Be l i j).length=l.length:=by simp [Be]
theorem Fq {l:List Nat} {i j k:Nat} (hi:i<l.length) (hj:j<l.length):(Be l i j).getD k 0=if k=j then l.getD i 0 else if k=i then l.getD j 0 else l.getD k 0:=by
 unfold Be
 simp only[RT,Sa,Sg]
 by_cases a:j=k
 · subst a;simp [hj]
 · by_cases b:i=k
   · subst b;simp [hi,a,Ne.symm a]
   · simp [a,b,Ne.symm a,Ne.symm b]
theorem yI {l:List Nat} {i j:Nat} (hi:i<l.length) (hj:j<l.length):(Be l i j).Perm l:=by
 rw[List.perm_iff_count]
 intro a
 unfold Be
 have e1:l.getD i 0=l[i]:=by rw[RT,RW hi];rfl
 have e2:l.getD j 0=l[j]:=by rw[RT,RW hj];rfl
 rw[e1,e2,List.count_set (by simpa using hj),List.count_set hi]
 have e3:(l.set i l[j])[j]'(by simpa using hj)=l[j]:=by
  rw[List.getElem_set];split
  · rfl
  · rfl
 rw[e3]
 have c1:l[i]==a→1≤l.count a:=fun h=>List.count_pos_iff.2 (by rw[←eq_of_beq h];exact Sb hi)
 by_cases p:(l[i]==a)=true
 · have:=c1 p
   by_cases q:(l[j]==a)=true
   · simp only[p,q,if_true];omega
   · simp only[p,q,if_true];simp;omega
 · by_cases q:(l[j]==a)=true
   · simp only[p,q,if_true];simp
   · simp only[p,q];simp
section
variable (ky:Nat→Int)
def Rb (lo n ex:Nat) (l:List Nat):Prop:=(∀c,0<c→c<n→lo≤(c-1)/2→(c-1)/2≠ex→ky (l.getD ((c-1)/2) 0)≤ky (l.getD c 0))∧
 (∀c,0<c→c<n→(c-1)/2=ex→0<ex→lo≤(ex-1)/2→ky (l.getD ((ex-1)/2) 0)≤ky (l.getD c 0))
def G2 (lo n:Nat) (l:List Nat):Prop:=∀c,0<c→c<n→lo≤(c-1)/2→ky (l.getD ((c-1)/2) 0)≤ky (l.getD c 0)
def DF (n i:Nat) (l:List Nat):Nat:=if 2* i+2<n∧ky (l.getD (2* i+2) 0)<ky (l.getD (2* i+1) 0)then 2* i+2 else 2* i+1
def sink (n:Nat):Nat→Nat→List Nat→List Nat
 |0,_,l=>l
 |f+1,i,l=>if n≤2* i+1 then l else if ky (l.getD (DF ky n i l) 0)<ky (l.getD i 0)then sink n f (DF ky n i l) (Be l i (DF ky n i l))else l
def Dm:Nat→Nat→List Nat→List Nat
 |0,_,l=>l
 |f+1,j,l=>if j=0 then l else if ky (l.getD j 0)<ky (l.getD ((j-1)/2) 0)then Dm f ((j-1)/2) (Be l ((j-1)/2) j)else l
variable {ky}
theorem Cp {n i:Nat} {l:List Nat} (h:2* i+1<n):(DF ky n i l=2* i+1∨DF ky n i l=2* i+2)∧DF ky n i l<n:=by
 unfold DF;split
 · rename_i c;exact⟨.inr rfl,c.1⟩
 · exact⟨.inl rfl,h⟩
theorem IZ {n i:Nat} {l:List Nat} (h:2* i+1<n) {c:Nat} (h0:0<c) (hc:c<n) (hp:(c-1)/2=i):ky (l.getD (DF ky n i l) 0)≤ky (l.getD c 0):=by
 have:c=2* i+1∨c=2* i+2:=by omega
 unfold DF;split
 · rename_i q
   rcases this with rfl|rfl
   · exact Int.le_of_lt q.2
   · exact Ss _
 · rename_i q
   rcases this with rfl|rfl
   · exact Ss _
   · by_cases z:ky (l.getD (2* i+2) 0)<ky (l.getD (2* i+1) 0)
     · exact absurd ⟨hc,z⟩ q
     · omega
theorem Fm {lo n : Nat} : ∀ (f i : Nat) (l : List Nat), n ≤ i + f → lo ≤ i → n ≤ l.length → Rb ky lo n i l → G2 ky lo n (sink ky n f i l) ∧ (sink ky n f i l).Perm l ∧ (∀ k, n ≤ k → (sink ky n f i l).getD k 0 = l.getD k 0)
 | 0, i, l, hf, hlo, hl, hx => by
   refine⟨fun c h0 hc hp=>hx.1 c h0 hc hp (by omega),Sy _,fun _ _=>rfl⟩
 | f + 1, i, l, hf, hlo, hl, hx => by
   rw[sink]
   by_cases c0:n≤2* i+1
   · rw[if_pos c0]
     exact⟨fun c h0 hc hp=>hx.1 c h0 hc hp (by omega),Sy _,fun _ _=>rfl⟩
   · rw [if_neg c0]
     obtain⟨kr,kn⟩:=Cp (ky:=ky) (n:=n) (i:=i) (l:=l) (by omega)
     have kl:∀c,0<c→c<n→(c-1)/2=i→ky (l.getD (DF ky n i l) 0)≤ky (l.getD c 0):=fun c h0 hc hp=>IZ (by omega) h0 hc hp
     generalize DF ky n i l=j at kr kn kl ⊢
     by_cases c1:ky (l.getD j 0)<ky (l.getD i 0)
     · rw [if_pos c1]
       have g:∀k,(Be l i j).getD k 0=if k=j then l.getD i 0 else if k=i then l.getD j 0 else l.getD k 0:=fun k=>Fq (by omega) (by omega)
       have ji:i<j:=by omega
       have jp:(j-1)/2=i:=by omega
       obtain ⟨a1, a2, a3⟩ := Fm (lo := lo) (n := n) f j (Be l i j) (by omega) (by omega) (by rw [xO]; exact hl) ⟨by
        intro c h0 hc hp hne
        rw[g,g]
        by_cases e1:c=j
        · subst e1
          rw[if_neg (by omega),if_pos jp,if_pos rfl];omega
        · rw [if_neg hne, if_neg e1]
          by_cases e2:(c-1)/2=i
          · rw[if_pos e2,if_neg (by omega)];exact kl c h0 hc e2
          · rw[if_neg e2]
            by_cases e3:c=i
            · subst e3
              rw[if_pos rfl]
              exact hx.2 j (by omega) kn jp h0 hp
            · rw[if_neg e3];exact hx.1 c h0 hc hp e2,by
        intro c h0 hc hp hj0 hlp
        rw[g,g,if_neg (by omega),if_pos jp,if_neg (by omega),if_neg (by omega)]
        have:=hx.1 c h0 hc (by omega) (by omega)
        rwa [hp]at this⟩
       refine⟨a1,a2.trans (yI (by omega) (by omega)),fun k hk=> ?_⟩
       rw[a3 k hk,g,if_neg (by omega),if_neg (by omega)]
     · rw[if_neg c1]
       refine⟨fun c h0 hc hp=> ?_,Sy _,fun _ _=>rfl⟩
       by_cases e:(c-1)/2=i
       · have:=kl c h0 hc e
         rw[e];omega
       · exact hx.1 c h0 hc hp e
theorem Bc {n:Nat}:∀(f i:Nat) (l:List Nat),(sink ky n f i l).length=l.length
 |0,_,_=>rfl
 | f + 1, i, l => by
   rw[sink]
   split
   · rfl
   · split
     · rw[Bc f,xO]
     · rfl
theorem Ev {n:Nat}:∀{f i:Nat} {l:List Nat},n≤l.length→(sink ky n f i l).Perm l
 |0,_,_,_=>Sy _
 | f + 1, i, l, hl => by
   rw[sink]
   split
   · exact Sy _
   · rename_i c
     obtain⟨kr,kn⟩:=Cp (ky:=ky) (n:=n) (i:=i) (l:=l) (by omega)
     split
     · exact(Ev (by rw[xO];exact hl)).trans (yI (by omega) (by omega))
     · exact Sy _
def Ra (n j:Nat) (l:List Nat):Prop:=(∀c,0<c→c<n→c≠j→ky (l.getD ((c-1)/2) 0)≤ky (l.getD c 0))∧
 (∀c,0<c→c<n→(c-1)/2=j→0<j→ky (l.getD ((j-1)/2) 0)≤ky (l.getD c 0))
theorem Ik {n : Nat} : ∀ (f j : Nat) (l : List Nat), j ≤ f → j < n → n ≤ l.length → Ra (ky := ky) n j l → G2 ky 0 n (Dm ky f j l) ∧ (Dm ky f j l).Perm l
 |0,j,l,hf,hj,hl,hx=>⟨fun c h0 hc _=>hx.1 c h0 hc (by omega),Sy _⟩
 | f + 1, j, l, hf, hj, hl, hx => by
   rw[Dm]
   by_cases c0:j=0
   · rw[if_pos c0];exact⟨fun c h0 hc _=>hx.1 c h0 hc (by omega),Sy _⟩
   · rw [if_neg c0]
     by_cases c1:ky (l.getD j 0)<ky (l.getD ((j-1)/2) 0)
     · rw [if_pos c1]
       obtain⟨p,hp⟩:∃p,p=(j-1)/2:=⟨_,rfl⟩
       rw[←hp]at c1 ⊢
       have g:∀k,(Be l p j).getD k 0=if k=j then l.getD p 0 else if k=p then l.getD j 0 else l.getD k 0:=fun k=>Fq (by omega) (by omega)
       obtain⟨a1,a2⟩:=Ik (n:=n) f p (Be l p j) (by omega) (by omega) (by rw[xO];exact hl) ⟨by
        intro c h0 hc hne
        rw[g,g]
        by_cases e1:c=j
        · subst e1
          rw[if_pos rfl,←hp,if_neg (by omega),if_pos rfl];omega
        · rw[if_neg e1,if_neg hne]
          have h1:=hx.1 c h0 hc e1
          by_cases e2:(c-1)/2=j
          · rw[if_pos e2]
            have:=hx.2 c h0 hc e2 (by omega)
            rwa [←hp]at this
          · rw[if_neg e2]
            by_cases e3:(c-1)/2=p
            · rw[if_pos e3];rw[e3]at h1;omega
            · rw[if_neg e3];exact h1,by
        intro c h0 hc hcp hp0
        rw[g,g,if_neg (by omega),if_neg (by omega)]
        have h1:=hx.1 p (by omega) (by omega) (by omega)
        by_cases e1:c=j
        · rw[if_pos e1];exact h1
        · rw[if_neg e1,if_neg (by omega)]
          have:=hx.1 c h0 hc e1
          rw[hcp]at this;omega⟩
       exact⟨a1,a2.trans (yI (by omega) (by omega))⟩
     · rw[if_neg c1]
       refine⟨fun c h0 hc _=> ?_,Sy _⟩
       by_cases e:c=j
       · subst e;omega
       · exact hx.1 c h0 hc e
theorem GG:∀(f j:Nat) (l:List Nat),(Dm ky f j l).length=l.length
 |0,_,_=>rfl
 | f + 1, j, l => by
   rw[Dm]
   split
   · rfl
   · split
     · rw[GG f,xO]
     · rfl
theorem JX {n:Nat} {l:List Nat} (h:G2 ky 0 n l):∀k,k<n→ky (l.getD 0 0)≤ky (l.getD k 0):=by
 intro k
 induction k using Nat.strongRecOn with
 | ind k ih =>
   intro hk
   by_cases c:k=0
   · subst c;exact Ss _
   · have h1:=ih ((k-1)/2) (by omega) (by omega)
     have h2:=h k (by omega) hk (by omega)
     omega
def zk (n:Nat):Nat→List Nat→List Nat
 |0,l=>l
 |i+1,l=>zk n i (sink ky n n i l)
theorem Gc {n:Nat}:∀(i:Nat) (l:List Nat),n≤l.length→G2 ky i n l→G2 ky 0 n (zk (ky:=ky) n i l)∧(zk (ky:=ky) n i l).Perm l
 |0,l,hl,h=>⟨h,Sy _⟩
 | i + 1, l, hl, h => by
   obtain⟨a1,a2,a3⟩:=Fm (ky:=ky) (lo:=i) (n:=n) n i l (by omega) (uy _) hl ⟨fun c h0 hc hp hne=>h c h0 hc (by omega),fun c h0 hc hp h1 h2=>by omega⟩
   obtain⟨b1,b2⟩:=Gc i (sink ky n n i l) (by rw[Bc];exact hl) a1
   exact⟨b1,b2.trans a2⟩
end
end Ab
