/- Part C1. -/
import Derived.KernelRfl
import Derived.Test.YtcpjlemfholepaaGreatAP
set_option linter.unusedSimpArgs false
set_option linter.unusedVariables false
namespace Ab
open Go
theorem XN:type_of% @List.getD_eq_getElem?_getD:= @List.getD_eq_getElem?_getD
theorem XO:type_of% @List.length_cons:= @List.length_cons
theorem XP:type_of% @decide_eq_false:= @decide_eq_false
theorem XQ:type_of% @List.getElem?_eq_getElem:= @List.getElem?_eq_getElem
theorem XR:type_of% @List.length_nil:= @List.length_nil
theorem XS:type_of% @decide_eq_true:= @decide_eq_true
theorem XT:type_of% @Int.eq_ofNat_of_zero_le:= @Int.eq_ofNat_of_zero_le
theorem XU:type_of% @Option.map_some:= @Option.map_some
theorem XV:type_of% @List.append_assoc:= @List.append_assoc
theorem XW:type_of% @List.flatMap_cons:= @List.flatMap_cons
theorem XX:type_of% @List.map_cons:= @List.map_cons
theorem XY:type_of% @Nat.pow_le_pow_right:= @Nat.pow_le_pow_right
theorem XZ:type_of% @List.append_nil:= @List.append_nil
theorem X0:type_of% @List.getElem?_append_right:= @List.getElem?_append_right
theorem X1:type_of% @List.mem_map:= @List.mem_map
theorem X2:type_of% @List.getElem?_append_left:= @List.getElem?_append_left
theorem X3:type_of% @List.length_replicate:= @List.length_replicate
theorem X4:type_of% @List.getElem_mem:= @List.getElem_mem
theorem X5:type_of% @List.getElem?_eq_none:= @List.getElem?_eq_none
theorem X6:type_of% @List.length_set:= @List.length_set
theorem X7:type_of% @List.eq_of_mem_replicate:= @List.eq_of_mem_replicate
theorem X8:type_of% @List.getElem?_set:= @List.getElem?_set
theorem X9:type_of% @List.drop_zero:= @List.drop_zero
theorem Ya:type_of% @List.mem_append:= @List.mem_append
theorem Yb:type_of% @List.length_take:= @List.length_take
theorem Yc:type_of% @Classical.byContradiction:= @Classical.byContradiction
theorem Yd:type_of% @List.mem_or_eq_of_mem_set:= @List.mem_or_eq_of_mem_set
theorem Ye:type_of% @List.length_singleton:= @List.length_singleton
theorem Yf:type_of% @Option.map_none:= @Option.map_none
theorem Yg:type_of% @List.eq_nil_of_length_eq_zero:= @List.eq_nil_of_length_eq_zero
theorem Yh:type_of% @congrArg:= @congrArg
theorem Yi:type_of% @List.getElem?_replicate:= @List.getElem?_replicate
theorem Yj:type_of% @List.sum_cons:= @List.sum_cons
theorem Yk:type_of% @List.map_nil:= @List.map_nil
theorem Yl:type_of% @List.getElem?_range:= @List.getElem?_range
theorem Ym:type_of% @List.map_congr_left:= @List.map_congr_left
theorem Yn:type_of% @List.set_append_right:= @List.set_append_right
theorem Yo:type_of% @Int.toNat_natCast:= @Int.toNat_natCast
theorem Yp:type_of% @List.mem_iff_getElem:= @List.mem_iff_getElem
theorem Yq:type_of% @Int.le_refl:= @Int.le_refl
theorem Yr:type_of% @List.nil_append:= @List.nil_append
theorem Ys:type_of% @List.mem_cons_of_mem:= @List.mem_cons_of_mem
theorem Yt:type_of% @List.mem_of_mem_take:= @List.mem_of_mem_take
theorem Yu:type_of% @List.length_map:= @List.length_map
theorem Yv:type_of% @List.length_pos_iff:= @List.length_pos_iff
theorem Yw:type_of% @List.Perm.refl:= @List.Perm.refl
theorem Yx:type_of% @Nat.mul_le_mul:= @Nat.mul_le_mul
theorem Yy:type_of% @Nat.mul_one:= @Nat.mul_one
theorem Yz:type_of% @List.take_zero:= @List.take_zero
theorem YA:type_of% @List.nodup_cons:= @List.nodup_cons
theorem YB:type_of% @Nat.sub_self:= @Nat.sub_self
attribute [local congr] tO
def xw (l:List Int) (n:Nat):Nat:=if n=0 then 0 else l.countP (fun x=>x==(n:Int))
def syms (l:List Int) (n:Nat):List Int:=if n=0 then []else l.zipIdx.filterMap fun p=>if p.1=(n:Int)then some (p.2:Int)else none
theorem AA (p:List Int) (x:Int) (n:Nat):xw (p++[x]) n=xw p n+if n≠0∧x=(n:Int)then 1 else 0:=by
 unfold xw
 by_cases hn:n=0
 · simp [hn]
 · simp [hn,List.countP_append,List.countP_cons]
theorem AW (p:List Int) (x:Int) (n:Nat):syms (p++[x]) n=syms p n++if n≠0∧x=(n:Int)then [(p.length:Int)]else []:=by
 unfold syms
 by_cases hn:n=0
 · simp [hn]
 · simp [hn,List.zipIdx_append,List.filterMap_append]
   split<;>simp_all
theorem BN (l:List Int) (n:Nat):(syms l n).length≤l.length:=by
 unfold syms
 split
 · simp
 · refine vG (List.length_filterMap_le _ _) ?_
   simp
theorem Ay (l:List Int) (n:Nat):xw l n≤l.length:=by
 unfold xw
 split
 · omega
 · exact List.countP_le_length
structure Bk (h0 h:H) (b:Nat) (C:Nat→AV) (p:List Int):Prop where
 get:h.get b=some (nK 49 C)
 fl:h.floor=h0.next
 fb:h0.next≤b
 nx:h.floor≤h.next
 low:∀id,id<h0.next→h.get id=h0.get id
 MI:∀n,n<16→C (16+n)=I (xw p n)
 own:∀n,n<16→nJ h (C (32+n)) (ints (syms p n))
 nb:∀n,n<16→(C (32+n)).id?≠some b
 Om:∀n m,n<16→m<16→n≠m→∀i,(C (32+n)).id?=some i→(C (32+m)).id?≠some i
set_option maxHeartbeats 1000000 in
theorem Mj (h0 h : H) (b : Nat) (C : Nat → AV) (p : List Int) (n : Nat) (x : AV) (N : Int) (bk : Bk h0 h b C p) (hn1 : 0 < n) (hn : n < 16) (hp : p.length < 100000) (hel : ∃ a, fM 1 x (I p.length) = some a ∧ ∀ g : H, (∀ id c, h0.get id = some c → g.get id = some c) → bQ false 1 a g = some (I n)) (hN : (p.length : Int) < N) :
 ∃h' C',aL (aR AP.A) bq AP.f41L1 [(3,.aD b 0),(10,x),(11,I N),(12,I p.length)] h=some (.normal,[(3,.aD b 0),(10,x),(11,I N),(12,I (p.length+1))],h')∧Bk h0 h' b C' (p++[(n:Int)])∧∀i,(i<16∨i=48)→C' i=C i:=by
 obtain⟨a,ha1,ha2⟩:=hel
 have hlow:∀id c,h0.get id=some c→h.get id=some c:=fun id c q=>by rw[bk.low id (h0.lt id c q)];exact q
 have hld:=ha2 h hlow
 have hx:cN (I n) 16=some n:=kj hn
 have g1:(nK 49 C)[16+n]?=some (I (xw p n)):=by rw[fK (by omega),bk.MI n hn]
 have hcl:=Ay p n
 have hw:IntKind.wrap .i64 ((xw p n:Int)+1)=xw p n+1:=ud (by omega) (by omega)
 have hw2:IntKind.wrap .i64 ((p.length:Int)+1)=p.length+1:=ud (by omega) (by omega)
 have hfb:h.floor≤b:=by rw[bk.fl];exact bk.fb
 have hs1:(nK 49 C).set (16+n) (I (xw p n+1))=nK 49 (uF C (16+n) (I (xw p n+1))):=uc (by omega) _
 obtain⟨C1,eC1⟩:∃D,D=uF C (16+n) (I (xw p n+1)):=⟨_,rfl⟩
 rw[←eC1]at hs1
 obtain⟨h1,eh1⟩:∃g,g=(h.set b (nK 49 C1)).alloc [I p.length]:=⟨_,rfl⟩
 have hbn:b<h.next:=h.lt _ _ bk.get
 have hb1:h1.get b=some (nK 49 C1):=by
  rw[eh1,H.aW,H.jy,if_neg (by omega),H.dp,if_pos rfl,bk.get];rfl
 have hC1:C1 (32+n)=C (32+n):=by rw[eC1,uF,if_neg (by omega)]
 have hlo1:∀i,i≠b→i≠h.next→h1.get i=h.get i:=fun i q1 q2=>by
  rw[eh1,H.aW,H.jy,if_neg q2,H.dp,if_neg q1]
 have hfl1:h1.floor=h.floor:=by rw[eh1];simp
 have hnx1:h1.next=h.next+1:=by rw[eh1];simp
 have ho1:∀m,m<16→nJ h1 (C (32+m)) (ints (syms p m)):=fun m hm=>
  (bk.own m hm).mono hfl1 fun i hi=>hlo1 i (fun e=>bk.nb m hm (e ▸ hi)) (by have:=(bk.own m hm).lt hi;omega)
 have hsl:=BN p n
 have hnxf:=bk.nx
 obtain⟨v',h2,q1,q2,q3,q4,q5,q6⟩:=(ho1 n hn).app (by omega) (z:=8) (I p.length) rfl (by simp [roomy];omega)
 have g2:(nK 49 C1)[32+n]?=some (C (32+n)):=by rw[fK (by omega),hC1]
 have hb2:h2.get b=some (nK 49 C1):=by rw[q5 b (bk.nb n hn) (by omega)];exact hb1
 have hs2:(nK 49 C1).set (32+n) v'=nK 49 (uF C1 (32+n) v'):=uc (by omega) _
 have hfl2:h2.floor≤b:=by have:=bk.fb;have:=bk.fl;omega
 have hv':v'.cells=[v']∧v'.sc=true:=by
  rcases q2 with ⟨rfl,_⟩|⟨id,rfl,_⟩<;>exact⟨rfl,rfl⟩
 have b1:16+n≤48:=by omega
 have b2:32+n≤48:=by omega
 have hal:(h.set b (nK 49 C1)).get b=some (nK 49 C1):=by rw[H.dp,if_pos rfl,bk.get];rfl
 have hal2:h1.get h.next=some [I p.length]:=by rw[eh1,H.aW,H.jy,if_pos rfl]
 refine⟨h2.set b (nK 49 (uF C1 (32+n) v')),uF C1 (32+n) v', ?_, ?_,fun i hi=>by rw[uF,if_neg (by omega),eC1,uF,if_neg (by omega)]⟩
 · simp only[I]at *
   simp [AP.f41L1,aL,aw,aN,aj,ai,bn,aY,ha1,hld,hN,hn1,hx,bk.get,g1,hw,hw2,hfb,hs1,dG,dO,kM,aS,H.aW,bU.aO,b1,b2,hal,g2,←eh1,hal2,q1,hb2,hs2,hfl2,hv'.1,hv'.2]
 · refine⟨by rw[H.dp,if_pos rfl,hb2];rfl,by simp;rw[q3,hfl1,bk.fl],bk.fb,by simp;omega,fun id hid=> ?_,fun m hm=> ?_,fun m hm=> ?_,fun m hm=> ?_,fun m k hm hk hne i hi=> ?_⟩
   · have hfb':=bk.fb
     have hfl':=bk.fl
     rw[H.dp,if_neg (by omega),q5 id ?_ (by omega),hlo1 id (by omega) (by omega),bk.low id hid]
     intro hi
     rcases bk.own n hn with ⟨e,_⟩|⟨k,e,_,q⟩
     · rw[e]at hi;cases hi
     · rw[e]at hi;cases hi;have:=q.1;omega
   · rw[uF,if_neg (by omega),eC1,uF,AA]
     by_cases e:m=n
     · subst e;rw[if_pos rfl,if_pos ⟨by omega,rfl⟩];simp
     · rw[if_neg (by omega),bk.MI m hm,if_neg (by omega)];simp
   · have hm32:uF C1 (32+n) v' (32+m)=if m=n then v' else C (32+m):=by
      simp only[uF]
      by_cases e:m=n
      · rw[if_pos (by omega),if_pos e]
      · rw[if_neg (by omega),if_neg e,eC1,uF,if_neg (by omega)]
     rw[hm32,AW]
     by_cases e:m=n
     · subst e
       rw[if_pos rfl,if_pos ⟨by omega,rfl⟩,pX]
       refine q2.mono (by simp) fun i hi=> ?_
       rw[H.dp,if_neg]
       intro e2;subst e2;rw[q6]at hi;cases hi;omega
     · rw[if_neg e,if_neg (by omega),XZ]
       refine(ho1 m hm).mono (by simp;omega) fun i hi=> ?_
       have hlt:=(bk.own m hm).lt hi
       rw[H.dp,if_neg (fun (e2:i=b)=>bk.nb m hm (e2 ▸ hi)),q5 i (bk.Om m n hm hn e i hi) (by omega)]
   · have hm32:uF C1 (32+n) v' (32+m)=if m=n then v' else C (32+m):=by
      simp only[uF]
      by_cases e:m=n
      · rw[if_pos (by omega),if_pos e]
      · rw[if_neg (by omega),if_neg e,eC1,uF,if_neg (by omega)]
     rw[hm32]
     by_cases e:m=n
     · rw[if_pos e,q6];intro e2;cases e2;omega
     · rw[if_neg e];exact bk.nb m hm
   · have hm32:∀m,uF C1 (32+n) v' (32+m)=if m=n then v' else C (32+m):=fun m=>by
      simp only[uF]
      by_cases e:m=n
      · rw[if_pos (by omega),if_pos e]
      · rw[if_neg (by omega),if_neg e,eC1,uF,if_neg (by omega)]
     rw[hm32]at hi ⊢
     by_cases e:m=n
     · rw[if_pos e,q6]at hi
       cases hi
       rw[if_neg (by omega)]
       intro e2;have:=(bk.own k hk).lt e2;omega
     · rw[if_neg e]at hi
       by_cases e3:k=n
       · rw[if_pos e3,q6];intro e2;cases e2;have:=(bk.own m hm).lt hi;omega
       · rw[if_neg e3];exact bk.Om m k hm hk hne i hi
set_option maxHeartbeats 1000000 in
theorem Mk (h0 h:H) (b:Nat) (C:Nat→AV) (p:List Int) (x:AV) (N:Int) (bk:Bk h0 h b C p) (hp:p.length<100000) (hel:∃a,fM 1 x (I p.length)=some a∧∀g:H,(∀id c,h0.get id=some c→g.get id=some c)→bQ false 1 a g=some (I 0)) (hN:(p.length:Int)<N):
 aL (aR AP.A) bq AP.f41L1 [(3,.aD b 0),(10,x),(11,I N),(12,I p.length)] h=some (.normal,[(3,.aD b 0),(10,x),(11,I N),(12,I (p.length+1))],h)∧Bk h0 h b C (p++[0]):=by
 obtain⟨a,ha1,ha2⟩:=hel
 have hlow:∀id c,h0.get id=some c→h.get id=some c:=fun id c q=>by rw[bk.low id (h0.lt id c q)];exact q
 have hld:=ha2 h hlow
 have hw2:IntKind.wrap .i64 ((p.length:Int)+1)=p.length+1:=ud (by omega) (by omega)
 refine⟨?_,⟨bk.get,bk.fl,bk.fb,bk.nx,bk.low,fun n hn=> ?_,fun n hn=> ?_,bk.nb,bk.Om⟩⟩
 · simp only[I]at *
   simp [AP.f41L1,aL,aw,aN,aj,ai,ha1,hld,hN,hw2]
 · rw[bk.MI n hn,AA,if_neg (by omega)];simp
 · have:=bk.own n hn
   rw[AW,if_neg (by omega),XZ];exact this
theorem GM (h0 : H) (b : Nat) (x : AV) (l : List Int) (hl : l.length < 100000) (hr : ∀ y ∈ l, 0 ≤ y ∧ y < 16) (hx : Rd h0 x (ints l)) : ∀ (m : Nat) (p q : List Int) (C : Nat → AV) (h : H), l = p ++ q → q.length = m → Bk h0 h b C p →
 ∃h' C' e',Lp AP.A [3,10,11,12] AP.f41L1 [(3,.aD b 0),(10,x),(11,I l.length),(12,I p.length)] h=some (.exit 0,e',h')∧look e' 3=.aD b 0∧Bk h0 h' b C' l∧∀i,(i<16∨i=48)→C' i=C i
 | 0, p, [], C, h, hpq, _, bk => by
   refine⟨h,C, ?_⟩
   have:l=p:=by simpa using hpq
   subst this
   refine⟨_,tM (e':=[(3,.aD b 0),(10,x),(11,I l.length),(12,I l.length),(13,.bool false)]) ?_,rfl,bk,fun _ _=>rfl⟩
   simp [AP.f41L1,aL,aw,aj,ai,I]
 | m + 1, p, y :: q, C, h, hpq, hm, bk => by
   have hmem:y∈l:=by rw[hpq];simp
   obtain⟨h1,h2⟩:=hr y hmem
   have hget:l[p.length]?=some y:=by rw[hpq];simp
   have hel:=hx.elem (tu hget)
   have hlen:p.length<l.length:=(vh.1 hget).1
   obtain⟨n,rfl⟩:=XT h1
   have next:∃h' C',aL (aR AP.A) bq AP.f41L1 [(3,.aD b 0),(10,x),(11,I l.length),(12,I p.length)] h=some (.normal,[(3,.aD b 0),(10,x),(11,I l.length),(12,I (p.length+1))],h')∧Bk h0 h' b C' (p++[(n:Int)])∧∀i,(i<16∨i=48)→C' i=C i:=by
    by_cases hn:n=0
    · subst hn
      have z:=Mk h0 h b C p x l.length bk (by omega) hel (by omega)
      exact⟨h,C,z.1,z.2,fun _ _=>rfl⟩
    · exact Mj h0 h b C p n x l.length bk (by omega) (by omega) (by omega) hel (by omega)
   obtain⟨h',C',s1,bk',hC'⟩:=next
   have ih:=GM h0 b x l hl hr hx m (p++[(n:Int)]) q C' h' (by rw[hpq];simp) (by simpa using hm) bk'
   obtain⟨h2,C2,e2,k1,k2,k3,k4⟩:=ih
   exact⟨h2,C2,e2,tN s1 (by simpa using k1),k2,k3,fun i hi=>by rw[k4 i hi,hC' i hi]⟩
def vR (l:List Int):Nat→Int
 |0=>0
 |n+1=>(vR l n+xw l n)* 2
def wh (l:List Int):Nat→Int
 |0=>1
 |n+1=>wh l n* 2-xw l (n+1)
theorem zQ {l:List Int} (hl:l.length<100000) (n:Nat):0≤vR l n∧vR l n≤200000* 2^n-200000:=by
 induction n with
 |zero=>simp [vR]
 |succ n ih=>have:=Ay l n;simp only[vR,Int.pow_succ];omega
theorem Ja {l:List Int} (hl:l.length<100000) (n:Nat): -(200000* 2^n-100000)≤wh l n∧wh l n≤2^n:=by
 induction n with
 |zero=>simp [wh]
 |succ n ih=>have:=Ay l (n+1);simp only[wh,Int.pow_succ];omega
theorem zV {m:Nat} (hm:m≤15):(2:Int)^m≤32768:=by
 have h:(2:Nat)^m≤2^15:=XY (by omega) hm
 have h2:((2^m:Nat):Int)≤((2^15:Nat):Int):=Int.ofNat_le.2 h
 simpa using h2
theorem Bk.put {h0 h:H} {b:Nat} {C:Nat→AV} {p:List Int} (bk:Bk h0 h b C p) {i:Nat} (hi:i<16∨i=48) (v:AV):Bk h0 (h.set b (nK 49 (uF C i v))) b (uF C i v) p:=by
 have c:∀j,16≤j→j<48→uF C i v j=C j:=fun j h1 h2=>by rw[uF,if_neg (by omega)]
 have hbn:b<h.next:=h.lt _ _ bk.get
 refine⟨by rw[H.dp,if_pos rfl,bk.get];rfl,by simp [bk.fl],bk.fb,by simp [bk.nx],fun id hid=> ?_,fun n hn=> ?_,fun n hn=> ?_,fun n hn=> ?_,fun n m hn hm hne k hk=> ?_⟩
 · have:=bk.fb
   rw[H.dp,if_neg (by omega)];exact bk.low id hid
 · rw[c _ (by omega) (by omega)];exact bk.MI n hn
 · rw[c _ (by omega) (by omega)]
   refine(bk.own n hn).mono (by simp) fun k hk=> ?_
   rw[H.dp,if_neg];intro (e:k=b);exact bk.nb n hn (e ▸ hk)
 · rw[c _ (by omega) (by omega)];exact bk.nb n hn
 · rw[c _ (by omega) (by omega)]at hk ⊢;exact bk.Om n m hn hm hne k hk
set_option maxHeartbeats 1000000 in
theorem Km (h0 h:H) (b:Nat) (C:Nat→AV) (l:List Int) (m:Nat) (bk:Bk h0 h b C l) (hl:l.length<100000) (hm:m<15) (hc:C 48=I (wh l m)):
 aL (aR AP.A) bq AP.f41L0 [(3,.aD b 0),(6,I (vR l m)),(7,I (m+1))] h=
  some (.normal,[(3,.aD b 0),(6,I (vR l (m+1))),(7,I (m+1+1))],(h.set b (nK 49 (uF C (m+1) (I (vR l (m+1)))))).set b (nK 49 (uF (uF C (m+1) (I (vR l (m+1)))) 48 (I (wh l (m+1)))))):=by
 have hp:=zV (m:=m) (by omega)
 have hf:=zQ hl m
 have hlf:=Ja hl m
 have c1:=Ay l m
 have c2:=Ay l (m+1)
 have w1:IntKind.wrap .i64 (m:Int)=m:=ud (by omega) (by omega)
 have w2:IntKind.wrap .i64 (vR l m+xw l m)=vR l m+xw l m:=ud (by omega) (by omega)
 have w3:IntKind.wrap .i64 ((vR l m+xw l m)* 2)=vR l (m+1):=ud (by omega) (by omega)
 have w4:IntKind.wrap .i64 (wh l m* 2)=wh l m* 2:=ud (by omega) (by omega)
 have w5:IntKind.wrap .i64 (wh l m* 2-xw l (m+1))=wh l (m+1):=ud (by omega) (by omega)
 have w6:IntKind.wrap .i64 ((m:Int)+1+1)=m+1+1:=ud (by omega) (by omega)
 have x1:cN (I m) 16=some m:=kj (by omega)
 have x2:cN (I (m+1)) 16=some (m+1):=kj (i:=m+1) (by omega)
 have g1:(nK 49 C)[16+m]?=some (I (xw l m)):=by rw[fK (by omega),bk.MI m (by omega)]
 obtain⟨C1,e1⟩:∃D,D=uF C (m+1) (I (vR l (m+1))):=⟨_,rfl⟩
 have s1:(nK 49 C).set (m+1) (I (vR l (m+1)))=nK 49 C1:=by rw[e1];exact uc (by omega) _
 have g2:(nK 49 C1)[16+(m+1)]?=some (I (xw l (m+1))):=by rw[fK (by omega),e1,uF,if_neg (by omega),bk.MI (m+1) (by omega)]
 have g3:(nK 49 C1)[48]?=some (I (wh l m)):=by rw[fK (by omega),e1,uF,if_neg (by omega),hc]
 have g4:C1 48=I (wh l m):=by rw[e1,uF,if_neg (by omega),hc]
 have s2:(nK 49 C1).set 48 (I (wh l (m+1)))=nK 49 (uF C1 48 (I (wh l (m+1)))):=uc (by omega) _
 have hfb:h.floor≤b:=by rw[bk.fl];exact bk.fb
 have ge:(h.set b (nK 49 C1)).get b=some (nK 49 C1):=by rw[H.dp,if_pos rfl,bk.get];rfl
 have b1:m+1≤48:=by omega
 have b3:m≤47:=by omega
 have b4:m≤14:=by omega
 have b2:(m:Int)+1≤15:=by omega
 rw[←e1]
 simp only[I]at *
 simp [AP.f41L0,aL,aw,aN,aj,ai,bk.get,w1,w2,w3,w4,w5,w6,x1,x2,g1,g2,g3,g4,s1,s2,hfb,ge,b1,b2,b3,b4]
theorem Fg (h0:H) (b:Nat) (l:List Int) (hl:l.length<100000):∀(k m:Nat) (C:Nat→AV) (h:H),m+k=15→Bk h0 h b C l→C 48=I (wh l m)→(∀i,i≤m→C i=I (vR l i))→
 ∃h' C' e',Lp AP.A [3,6,7] AP.f41L0 [(3,.aD b 0),(6,I (vR l m)),(7,I (m+1))] h=some (.exit 2,e',h')∧look e' 3=.aD b 0∧Bk h0 h' b C' l∧C' 48=I (wh l 15)∧∀i,i≤15→C' i=I (vR l i)
 | 0, m, C, h, hk, bk, hc, hf => by
   obtain rfl:m=15:=by omega
   refine⟨h,C,[(3,.aD b 0),(6,I (vR l 15)),(7,I 16),(45,.bool false)],tM ?_,rfl,bk,hc,hf⟩
   have e:((15:Nat):Int)+1=16:=rfl
   rw[e]
   simp [AP.f41L0,aL,aw,aj,ai,I]
 | k + 1, m, C, h, hk, bk, hc, hf => by
   have st:=Km h0 h b C l m bk hl (by omega) hc
   have bk1:=(bk.put (i:=m+1) (.inl (by omega)) (I (vR l (m+1)))).put (i:=48) (.inr rfl) (I (wh l (m+1)))
   obtain⟨h',C',e',k1,k2⟩:=Fg h0 b l hl k (m+1) _ _ (by omega) bk1 (by simp [uF]) (fun i hi=>by
    rw[uF,if_neg (by omega),uF]
    by_cases e:i=m+1
    · rw[if_pos e,e]
    · rw[if_neg e];exact hf i (by omega))
   exact⟨h',C',e',tN st (by simpa using k1),k2⟩
def Am (l:List AV):AV:=if l=[]then .aP else .aV false l 0 l.length 1
def xZ (l:List Int):Nat→AV:=fun i=>if i<16 then I (vR l i)else if i<32 then I (xw l (i-16))else if i<48 then Am (ints (syms l (i-32)))else I (wh l 15)
def wE (l:List Int):AV:=.aK (nK 49 (xZ l)) 0
theorem K9 {f:AV→Option AV} {C D:Nat→AV}:∀(n:Nat),(∀i,i<n→f (C i)=some (D i))→fD f (nK n C)=some (nK n D):=by
 have key:∀(l:List Nat),(∀i∈l,f (C i)=some (D i))→fD f (l.map C)=some (l.map D):=by
  intro l
  induction l with
  |nil=>intro _;rfl
  |cons i l ih=>intro h;simp [fD,h i (by simp),ih (fun j hj=>h j (by simp [hj]))]
 exact fun n h=>key _ fun i hi=>h i (List.mem_range.1 hi)
theorem yA (g:Nat→Option (List AV)) (fl n:Nat) (t:Bool):∀l:List Int,fD (snap g fl (n+1) t) (ints l)=some (ints l)
 |[]=>rfl
 | x :: l => by
   have:=yA g fl n t l
   simp only[ints,XX,fD]at this ⊢
   rw[this];rfl
theorem JD {h:H} {v:AV} {cs:List AV} {fl n:Nat} (o:nJ h v cs) (hf:fl≤h.floor) (hm:fD (snap h.get fl (n+1) false) cs=some cs):snap h.get fl (n+2) false v=some (Am cs):=by
 rcases o with ⟨rfl,rfl⟩|⟨id,rfl,hg,hfl,hne⟩
 · rfl
 · have h1:¬id<fl:=by omega
   simp only[snap,if_neg h1,hg,vi,vr,Yy,X9,List.take_length,vm,if_true,hm,Am,if_neg hne]
def C0:Nat→AV:=fun i=>if i<32 then I 0 else if i<48 then .aP else I 1
set_option maxHeartbeats 1000000 in
theorem BD (h : H) (x : AV) (l : List Int) (hl : l.length < 100000) (hr : ∀ y ∈ l, 0 ≤ y ∧ y < 16) (hx : Rd h x (ints l)) : aR AP.A 41 [x] h = some (wE l, h) := by
 have hb0:Bk h (h.dN.alloc (nK 49 C0)) h.next C0 []:=by
  refine⟨by simp [H.aW],by simp,vm _,by simp,fun id hid=> ?_,fun n hn=> ?_,fun n hn=> ?_,fun n hn=> ?_,fun n m hn hm hne i hi=> ?_⟩
  · rw[H.aW,if_neg (by simp;omega)];rfl
  · simp only[C0,xw,List.countP_nil];rw[if_pos (by omega)];simp
  · simp only[C0];rw[if_neg (by omega),if_pos (by omega)]
    exact .inl ⟨rfl,by unfold syms;split<;>rfl⟩
  · simp only[C0];rw[if_neg (by omega),if_pos (by omega)];exact nofun
  · simp only[C0]at hi;rw[if_neg (by omega),if_pos (by omega)]at hi;cases hi
 obtain⟨h1,D1,e1,k1,k2,bk1,k3⟩:=GM h h.next x l hl hr hx l.length [] l C0 _ rfl rfl hb0
 obtain⟨h2,D2,e2,k4,k5,bk2,k6,k7⟩:=Fg h h.next l hl 15 0 D1 h1 rfl bk1 (by rw[k3 48 (.inr rfl)];rfl) (fun i hi=>by
  obtain rfl:i=0:=by omega
  rw[k3 0 (.inl (by omega))];rfl)
 have kx:aL (aR AP.A) bq AP.f41.body (params 0 [x]) h.dN=some (.ret,[(2,.aD h.next 0)],h2):=by
  unfold AP.f41
  refine uR (e1:=[(0,x)]) (h1:=h.dN) rfl ?_
  refine uR (e1:=[(0,x),(3,.aD h.next 0)]) (h1:=h.dN.alloc (nK 49 C0)) rfl ?_
  refine uR (e1:=[(3,.aD h.next 0)]) (h1:=h1) ?_ ?_
  · refine uR (e1:=[(3,.aD h.next 0),(10,x),(11,I l.length),(12,I 0)]) (h1:=h.dN.alloc (nK 49 C0)) ?_ ?_
    · simp [aL,aw,aj,ai,hx.len,I]
    · have:=qt (k:=[3]) k1
      simp only[rG,rY,k2]at this
      exact this
  refine uR (e1:=[(3,.aD h.next 0),(6,I 0)]) (h1:=h1) rfl ?_
  refine uR (e1:=[(3,.aD h.next 0)]) (h1:=h2) ?_ ?_
  · refine uR (e1:=[(3,.aD h.next 0),(6,I 0),(7,I 1)]) (h1:=h1) rfl ?_
    have:=qt (k:=[3]) k4
    simp only[rG,rY,k5]at this
    exact this
  exact uR (e1:=[(2,.aD h.next 0)]) (h1:=h2) rfl rfl
 have hsn:snap h2.get h.next 16 true (.aD h.next 0)=some (wE l):=by
  have hm:fD (snap h2.get h.next 15 false) (nK 49 D2)=some (nK 49 (xZ l)):=by
   refine K9 49 fun i hi=> ?_
   by_cases c1:i<16
   · rw[k7 i (by omega),xZ,if_pos c1];rfl
   by_cases c2:i<32
   · have:=bk2.MI (i-16) (by omega)
     rw[show 16+(i-16)=i by omega]at this
     rw[this,xZ,if_neg c1,if_pos c2];rfl
   by_cases c3:i<48
   · have:=bk2.own (i-32) (by omega)
     rw[show 32+(i-32)=i by omega]at this
     rw[xZ,if_neg c1,if_neg c2,if_pos c3]
     exact JD (n:=13) this (by rw[bk2.fl];exact vm _) (yA _ _ _ _ _)
   · obtain rfl:i=48:=by omega
     rw[k6,xZ,if_neg c1,if_neg c2,if_neg c3];rfl
  simp only[snap,if_neg (Nat.lt_irrefl _),bk2.get,vi,hm,wE]
 exact uz (fn:=AP.f41) rfl rfl rfl kx rfl hsn
theorem ze (w n:Nat) (h:n<2^w):(BitVec.ofInt w (n:Int)).toNat=n:=by
 rw[BitVec.ofInt_natCast,BitVec.toNat_ofNat,Nat.mod_eq_of_lt h]
theorem vL {n:Nat} (h:n<9223372036854775808):IntKind.wrap .i64 (n:Int)=n:=ud (by omega) (by omega)
theorem wrap_u8 {n:Nat} (h:n<256):IntKind.wrap .u8 (n:Int)=n:=by
 have e:IntKind.wrap .u8 (n:Int)=(n:Int)%256:=by simp [IntKind.wrap,IntKind.bits,IntKind.signed]
 rw[e];omega
theorem Eo {a b:Nat} (ha:a<9223372036854775808) (hb:b<9223372036854775808):bits .or .i64 (a:Int) (b:Int)=((a|||b:Nat):Int):=by
 have h1:a<2^63:=by simpa using ha
 have h2:b<2^63:=by simpa using hb
 have h3:a|||b<2^63:=Nat.or_lt_two_pow h1 h2
 show IntKind.wrap .i64 (((BitVec.ofInt 64 (a:Int)|||BitVec.ofInt 64 (b:Int)).toNat:Nat):Int)=_
 rw[BitVec.toNat_or,ze 64 a (by omega),ze 64 b (by omega)]
 exact vL (by simpa using h3)
theorem F8 {a b:Nat} (ha:a<256) (hb:b<256):bits .and .u8 (a:Int) (b:Int)=((a&&&b:Nat):Int):=by
 have h3:a&&&b<2^8:=Nat.and_lt_two_pow _ (by simpa using hb)
 show IntKind.wrap .u8 (((BitVec.ofInt 8 (a:Int)&&&BitVec.ofInt 8 (b:Int)).toNat:Nat):Int)=_
 rw[BitVec.toNat_and,ze 8 a (by omega),ze 8 b (by omega)]
 exact wrap_u8 (by simpa using h3)
theorem Kq {x b i:Nat} (hx:x<2^i):x|||b* 2^i=x+b* 2^i:=by
 have:=Nat.two_pow_add_eq_or_of_lt hx b
 rw[Nat.or_comm,Nat.mul_comm b,←this,Nat.add_comm]
@[simp] theorem MM {k j : IntKind} {a b : Int} : bj .shr (.int k a) (.int j b) = pF .shr k a b := rfl
@[simp] theorem ML {k j : IntKind} {a b : Int} : bj .shl (.int k a) (.int j b) = pF .shl k a b := rfl
attribute [go_sem] ML MM
theorem NY {a s:Nat} (hs:s≤8):pF .shr .u8 (a:Int) (s:Int)=some (.int .u8 ((a/2^s:Nat):Int)):=by
 unfold pF
 rw[if_neg (by omega)]
 simp only[IntKind.bits,Yo,Nat.min_eq_left hs]
 congr 2
 rw[Int.fdiv_eq_ediv_of_nonneg _ (Int.pow_nonneg (by omega))]
 simp
theorem ym {a s:Nat} (hs:s≤64) (h:a* 2^s<9223372036854775808):pF .shl .i64 (a:Int) (s:Int)=some (.int .i64 ((a* 2^s:Nat):Int)):=by
 unfold pF
 rw[if_neg (by omega)]
 simp only[IntKind.bits,Yo,Nat.min_eq_left hs]
 congr 2
 rw[←vL h];simp
def xA (s:ByteArray) (p:Nat):Nat:=((s[p/8]?).map (·.toNat)).getD 0/2^(p%8)%2
theorem EF (s:ByteArray) (p:Nat):xA s p≤1:=by unfold xA;omega
def vP (s:ByteArray) (p:Nat):Nat→Nat
 |0=>0
 |n+1=>vP s p n+xA s (p+n)* 2^n
theorem wQ (s:ByteArray) (p:Nat):∀n,vP s p n<2^n
 |0=>by simp [vP]
 | n + 1 => by
   have h:=wQ s p n
   have b:=EF s (p+n)
   have hb:xA s (p+n)=0∨xA s (p+n)=1:=by omega
   rw[vP,Nat.pow_succ]
   rcases hb with hb|hb<;>rw[hb]<;>omega
theorem AU (l:List Int) (n:Nat):(syms l n).length=xw l n:=by
 have key:∀(l:List Int) (k:Nat),((l.zipIdx k).filterMap fun p=>if p.1=(n:Int)then some (p.2:Int)else none).length=l.countP (fun x=>x==(n:Int)):=by
  intro l
  induction l with
  |nil=>intro k;rfl
  | cons x l ih =>
    intro k
    rw[List.zipIdx_cons,List.filterMap_cons,List.countP_cons]
    by_cases h:x=(n:Int)
    · simp only[if_pos h,XO,ih (k+1)];simp [h]
    · simp only[if_neg h,ih (k+1)];simp [h]
 unfold syms xw
 split
 · rfl
 · exact key l 0
def yD (l:List Int) (n:Nat) (v:Int):Option Int:=if vR l n≤v then(syms l n)[(v-vR l n).toNat]? else none
set_option maxHeartbeats 1000000 in
theorem QN (h:H) (l:List Int) (hl:l.length<100000) (n:Nat) (hn1:1≤n) (hn:n≤15) (v:Int) (hv0:0≤v) (hv:v<1000000):
 aR AP.A 72 [wE l,I n,I v] h=some (match yD l n v with|some y=>.bM [I y,.bool true]|none=>.bM [I 0,.bool false],h):=by
 have hp:=zV hn
 have hf:=zQ hl n
 have hc:=Ay l n
 have hsc:=AU l n
 have c1:¬((n:Int)<1):=by omega
 have c2:¬(15:Int)<n:=by omega
 have a1:cN (I n) 16=some n:=kj (by omega)
 have e1:xZ l n=I (vR l n):=by rw[xZ,if_pos (by omega)]
 have e2:xZ l (16+n)=I (xw l n):=by rw[xZ,if_neg (by omega),if_pos (by omega),show 16+n-16=n by omega]
 have e3:xZ l (32+n)=Am (ints (syms l n)):=by rw[xZ,if_neg (by omega),if_neg (by omega),if_pos (by omega),show 32+n-32=n by omega]
 have g1:(nK 49 (xZ l))[n]?=some (I (vR l n)):=by rw[fK (by omega),e1]
 have g2:(nK 49 (xZ l))[16+n]?=some (I (xw l n)):=by rw[fK (by omega),e2]
 have g3:(nK 49 (xZ l))[32+n]?=some (Am (ints (syms l n))):=by rw[fK (by omega),e3]
 have hb:wE l=.aK (nK 49 (xZ l)) 0:=rfl
 rw[hb]
 clear hb e1 e2 e3
 generalize nK 49 (xZ l)=T at g1 g2 g3 ⊢
 by_cases k1:v<vR l n
 · have:yD l n v=none:=by rw[yD,if_neg (by omega)]
   rw[this]
   refine tZ (fn:=AP.f72) (e:=[(6,I 0),(7,.bool false)]) rfl rfl rfl ?_ rfl
   simp only[I]at *
   simp only[AP.f72,go_sem,XP c1,XP c2,a1,g1,XS k1]
 have w1:IntKind.wrap .i64 (v-vR l n)=v-vR l n:=ud (by omega) (by omega)
 by_cases k2:(xw l n:Int)≤v-vR l n
 · have:yD l n v=none:=by rw[yD,if_pos (by omega),X5 (by omega)]
   rw[this]
   refine tZ (fn:=AP.f72) (e:=[(6,I 0),(7,.bool false)]) rfl rfl rfl ?_ rfl
   simp only[I]at *
   simp only[AP.f72,go_sem,XP c1,XP c2,a1,g1,g2,XP k1,w1,XS k2]
 · obtain⟨i,hi⟩:∃i:Nat,v-vR l n=i:=XT (by omega)
   have hil:i<(syms l n).length:=by omega
   obtain⟨y,hy⟩:∃y,(syms l n)[i]?=some y:=⟨_,XQ hil⟩
   have:yD l n v=some y:=by rw[yD,if_pos (by omega),hi,Yo,hy]
   rw[this]
   have hne:ints (syms l n)≠[]:=by intro e;have:=Yh List.length e;simp at this;simp [this]at hil
   have hs:Am (ints (syms l n))=.aV false (ints (syms l n)) 0 (ints (syms l n)).length 1:=by rw[Am,if_neg hne]
   rw[hs]at g3
   have a2:fM 1 (.aV false (ints (syms l n)) 0 (ints (syms l n)).length 1) (I i)=some (.aK (ints (syms l n)) i):=by
    simp [fM,kj (show i<(syms l n).length from hil)]
   have g4:=tu hy
   rw[hi]at w1 k2
   refine tZ (fn:=AP.f72) (e:=[(6,I y),(7,.bool true)]) rfl rfl rfl ?_ rfl
   simp only[I]at *
   simp only[AP.f72,go_sem,XP c1,XP c2,a1,g1,g2,XP k1,hi,w1,XP k2,g3,a2,g4]
attribute [local congr] tO
theorem yw (a b:Nat):Int.tdiv (a:Int) (b:Int)=((a/b:Nat):Int):=by simp
theorem AX (a b:Nat):Int.tmod (a:Int) (b:Int)=((a%b:Nat):Int):=by rw[Int.tmod_eq_emod_of_nonneg (by omega)];simp
theorem KO {s:ByteArray} {i:Nat} (h:i<s.size):∃b:UInt8,s[i]?=some b:=⟨s[i],by simp [h]⟩
set_option maxHeartbeats 1000000 in
theorem Nm (h:H) (r:Nat) (s:ByteArray) (p x i n:Nat) (hg:h.get r=some [.str s,I p]) (hf:h.floor≤r) (hp:p<8* s.size) (hs:s.size<1125899906842624) (hx:x<2^i) (hi:i<n) (hn:n≤16):
 aL (aR AP.A) bq AP.f58L0 [(0,.aD r 0),(6,I x),(32,I n),(33,I i)] h=some (.normal,[(0,.aD r 0),(6,I (x+xA s p* 2^i:Nat)),(32,I n),(33,I (i+1:Nat))],h.set r [.str s,I (p+1:Nat)]):=by
 obtain⟨b,hb⟩:=KO (s:=s) (i:=p/8) (by omega)
 have hb8:b.toNat<256:=b.toNat_lt
 have hbit:xA s p=b.toNat/2^(p%8)%2:=by simp [xA,hb]
 have t1:Int.tdiv (p:Int) 8=((p/8:Nat):Int):=yw p 8
 have t2:Int.tmod (p:Int) 8=((p%8:Nat):Int):=AX p 8
 have w1:IntKind.wrap .i64 ((p/8:Nat):Int)=((p/8:Nat):Int):=vL (by omega)
 have a1:cN (I (p/8:Nat)) s.size=some (p/8):=kj (by omega)
 have s1:pF .shr .u8 (b.toNat:Int) ((p%8:Nat):Int)=some (.int .u8 ((b.toNat/2^(p%8):Nat):Int)):=NY (by omega)
 have hlt:b.toNat/2^(p%8)<256:=Nat.lt_of_le_of_lt (Nat.div_le_self _ _) hb8
 have n1:bits .and .u8 ((b.toNat/2^(p%8):Nat):Int) 1=((xA s p:Nat):Int):=by
  have:=F8 (b:=1) hlt (by omega)
  rw[Nat.and_one_is_mod]at this
  rw[hbit];exact this
 have hbl:=EF s p
 have w2:IntKind.wrap .i64 ((xA s p:Nat):Int)=((xA s p:Nat):Int):=vL (by omega)
 have hpow:(2:Nat)^i≤2^16:=XY (by omega) (by omega)
 have hmul:xA s p* 2^i≤2^i:=by
  have:=vp (2^i) hbl;simpa using this
 have s2:pF .shl .i64 ((xA s p:Nat):Int) (i:Int)=some (.int .i64 ((xA s p* 2^i:Nat):Int)):=ym (by omega) (by omega)
 have o1:bits .or .i64 (x:Int) ((xA s p* 2^i:Nat):Int)=((x+xA s p* 2^i:Nat):Int):=by
  rw[Eo (by omega) (by omega),Kq hx]
 have w3:IntKind.wrap .i64 ((p:Int)+1)=((p+1:Nat):Int):=vL (n:=p+1) (by omega)
 have w4:IntKind.wrap .i64 ((i:Int)+1)=((i+1:Nat):Int):=vL (n:=i+1) (by omega)
 generalize hB:xA s p=B at *
 generalize hD:b.toNat/2^(p%8)=D at *
 generalize hE:p/8=E at *
 generalize hF:p%8=F at *
 generalize hO:x+B* 2^i=O at *
 generalize hM:B* 2^i=W at *
 simp only[I]at *
 simp [AP.f58L0,aL,aw,aN,aj,ai,hg,sg,sh,t1,t2,w1,mC,a1,hb,s1,n1,w2,s2,o1,w3,w4,hi,hf]
theorem IM (r:Nat) (s:ByteArray) (p n:Nat) (hs:s.size<1125899906842624) (hp:p+n≤8* s.size) (hn:n≤16):∀(k i:Nat) (h:H),i+k=n→h.get r=some [.str s,I (p+i:Nat)]→h.floor≤r→
 ∃e',Lp AP.A [0,6,32,33] AP.f58L0 [(0,.aD r 0),(6,I (vP s p i:Nat)),(32,I n),(33,I i)] h=some (.exit 1,e',h.set r [.str s,I (p+n:Nat)])∧look e' 6=I (vP s p n:Nat)
 | 0, i, h, hk, hg, hf => by
   obtain rfl:i=n:=by omega
   refine⟨[(0,.aD r 0),(6,I (vP s p i:Nat)),(32,I i),(33,I i),(34,.bool false)],tM ?_,rfl⟩
   rw[H.jC hg]
   simp [AP.f58L0,aL,aw,aj,ai,I]
 | k + 1, i, h, hk, hg, hf => by
   have st:=Nm h r s (p+i) (vP s p i) i n hg hf (by omega) hs (wQ s p i) (by omega) hn
   obtain⟨e',k1,k2⟩:=IM r s p n hs hp hn k (i+1) (h.set r [.str s,I (p+i+1:Nat)]) (by omega) (by rw[H.dp,if_pos rfl,hg];rfl) (by simpa using hf)
   rw[H.set_set]at k1
   exact⟨e',tN st k1,k2⟩
theorem RP (h:H) (r:Nat) (s:ByteArray) (p n:Nat) (hg:h.get r=some [.str s,I p]) (hf:h.floor≤r) (hs:s.size<1125899906842624) (hp:p+n≤8* s.size) (hn:n≤16):
 aR AP.A 58 [.aD r 0,I n] h=some (.bM [I (vP s p n:Nat),I 0],h.set r [.str s,I (p+n:Nat)]):=by
 obtain⟨e',k1,k2⟩:=IM r s p n hs hp hn n 0 h (by omega) hg hf
 have l1:=qt (k:=[6]) k1
 simp only[rG,rY,k2]at l1
 have c0:¬(n:Int)<0:=by omega
 have c1:¬(16:Int)<n:=by omega
 have w1:IntKind.wrap .i64 (8* (s.size:Int))=((8* s.size:Nat):Int):=vL (n:=8* s.size) (by omega)
 have w2:IntKind.wrap .i64 (((8* s.size:Nat):Int)-p)=((8* s.size-p:Nat):Int):=by
  rw[←Int.ofNat_sub (by omega)];exact vL (by omega)
 have c2:¬((8* s.size-p:Nat):Int)<n:=by omega
 refine tZ (fn:=AP.f58) (e:=[(4,I (vP s p n:Nat)),(5,I 0)]) rfl rfl rfl ?_ rfl
 unfold AP.f58
 refine uR (e1:=[(0,.aD r 0),(1,I n)]) (h1:=h) rfl ?_
 refine uR (e1:=[(0,.aD r 0),(1,I n)]) (h1:=h) ?_ ?_
 · generalize hM:8* s.size-p=W at *
   generalize hM2:8* s.size=W2 at *
   simp only[I]at *
   simp [aL,aw,aN,aj,ai,fC,pK,hg,jc,w1,w2,c0,c1,c2]
 refine uR (e1:=[(0,.aD r 0),(1,I n),(6,I 0)]) (h1:=h) rfl ?_
 refine uR (e1:=[(6,I (vP s p n:Nat))]) (h1:=h.set r [.str s,I (p+n:Nat)]) ?_ ?_
 · refine uR (e1:=[(0,.aD r 0),(6,I 0),(32,I n),(33,I 0)]) (h1:=h) rfl ?_
   exact l1
 exact uR (e1:=[(4,I (vP s p n:Nat)),(5,I 0)]) (h1:=h.set r [.str s,I (p+n:Nat)]) rfl rfl
theorem OQ (h:H) (r:Nat) (s:ByteArray) (p n:Nat) (hg:h.get r=some [.str s,I p]) (hs:s.size<1125899906842624) (hp0:p≤8* s.size) (hp:8* s.size<p+n) (hn:n≤16):
 aR AP.A 58 [.aD r 0,I n] h=some (.bM [I 0,I 101],h):=by
 have c0:¬(n:Int)<0:=by omega
 have c1:¬(16:Int)<n:=by omega
 have w1:IntKind.wrap .i64 (8* (s.size:Int))=((8* s.size:Nat):Int):=vL (n:=8* s.size) (by omega)
 have w2:IntKind.wrap .i64 (((8* s.size:Nat):Int)-p)=((8* s.size-p:Nat):Int):=by
  rw[←Int.ofNat_sub (by omega)];exact vL (by omega)
 have c2:((8* s.size-p:Nat):Int)<n:=by omega
 refine tZ (fn:=AP.f58) (e:=[(4,I 0),(5,I 101)]) rfl rfl rfl ?_ rfl
 unfold AP.f58
 refine uR (e1:=[(0,.aD r 0),(1,I n)]) (h1:=h) rfl ?_
 refine uS ?_
 generalize hM:8* s.size-p=W at *
 generalize hM2:8* s.size=W2 at *
 simp only[I]at *
 simp [aL,aw,aN,aj,ai,fC,pK,hg,jc,w1,w2,c0,c1,c2]
attribute [local congr] tO
theorem wF {A:a8} {f:Nat} {fn:fg} {args:List AV} {h h2:H} {e:Env} {vs:List AV} (hf:A f=some fn) (hnp:args.length=fn.np) (hp:fn.pure=false)
 (hx:aL (aR A) bq fn.body (params 0 args) h=some (.normal,e,h2)) (hres:cw e h2 fn.res=some vs):aR A f args h=some (dh vs,h2):=by
 refine kE hf ?_
 unfold e5
 rw[if_pos hnp]
 simp [hp,hx,fin,hres]
def yM (l:List Nat):List AV:=l.map fun (b:Nat)=>AV.int .u8 (b:Int)
@[simp] theorem yN (l : List Nat) : (yM l).length = l.length := by simp [yM]
structure SS where
 at_:Nat
 out:List Nat
 e:Int
structure SC where
 s:Nat
 r:Nat
 text:ByteArray
 most:Int
structure St (c:SC) (S:SS) (h:H) (ov:AV):Prop where
 gs:h.get c.s=some [.aD c.r 0,ov,I c.most,I S.e]
 gr:h.get c.r=some [.str c.text,I S.at_]
 own:nJ h ov (yM S.out)
 sr:c.s≠c.r
 fs:h.floor≤c.s
 fr:h.floor≤c.r
 os:ov.id?≠some c.s
 or:ov.id?≠some c.r
 nx:h.floor≤h.next
 sz:c.text.size<1125899906842624
 xY:S.at_≤8* c.text.size
 ol:(S.out.length:Int)≤c.most
 ml:c.most≤900000
structure Fr (c:SC) (h:H) (ov:AV) (h':H) (ov':AV):Prop where
 fl:h'.floor=h.floor
 nx:h.next≤h'.next
 D9:∀id,id<h.next→id≠c.s→id≠c.r→ov.id?≠some id→h'.get id=h.get id
 nb:∀i,ov'.id?=some i→ov.id?=some i∨h.next≤i
theorem Fr.refl (c:SC) (h:H) (ov:AV):Fr c h ov h ov:=⟨rfl,vm _,fun _ _ _ _ _=>rfl,fun _ q=>.inl q⟩
theorem Fr.trans {c:SC} {h1 h2 h3:H} {o1 o2 o3:AV} (a:Fr c h1 o1 h2 o2) (b:Fr c h2 o2 h3 o3):Fr c h1 o1 h3 o3:=by
 refine⟨b.fl.trans a.fl,vG a.nx b.nx,fun id h4 h5 h6 h7=> ?_,fun i hi=> ?_⟩
 · rw[b.D9 id (Nat.lt_of_lt_of_le h4 a.nx) h5 h6 (fun q=> ?_),a.D9 id h4 h5 h6 h7]
   rcases a.nb id q with q|q
   · exact h7 q
   · omega
 · rcases b.nb i hi with q|q
   · exact a.nb i q
   · exact .inr (vG a.nx q)
theorem St.Vr {c:SC} {S:SS} {h:H} {ov:AV} (st:St c S h ov) (e:Int):St c {S with e:=e} (h.set c.s [.aD c.r 0,ov,I c.most,I e]) ov∧Fr c h ov (h.set c.s [.aD c.r 0,ov,I c.most,I e]) ov:=by
 refine⟨⟨by rw[H.dp,if_pos rfl,st.gs];rfl,by rw[H.dp,if_neg (Ne.symm st.sr)];exact st.gr,st.own.mono (by simp) fun i hi=> ?_,st.sr,by simpa using st.fs,by simpa using st.fr,st.os,st.or,by simpa using st.nx,st.sz,st.xY,st.ol,st.ml⟩,⟨by simp,by simp,fun id h1 h2 h3 h4=>by rw[H.dp,if_neg h2],fun _ q=>.inl q⟩⟩
 rw[H.dp,if_neg];intro (e:i=c.s);exact st.os (e ▸ hi)
theorem St.Sa {c:SC} {S:SS} {h:H} {ov:AV} (st:St c S h ov) {p:Nat} (hp:p≤8* c.text.size):St c {S with at_:=p} (h.set c.r [.str c.text,I p]) ov∧Fr c h ov (h.set c.r [.str c.text,I p]) ov:=by
 refine⟨⟨by rw[H.dp,if_neg st.sr];exact st.gs,by rw[H.dp,if_pos rfl,st.gr];rfl,st.own.mono (by simp) fun i hi=> ?_,st.sr,by simpa using st.fs,by simpa using st.fr,st.os,st.or,by simpa using st.nx,st.sz,hp,st.ol,st.ml⟩,⟨by simp,by simp,fun id h1 h2 h3 h4=>by rw[H.dp,if_neg h3],fun _ q=>.inl q⟩⟩
 rw[H.dp,if_neg];intro (e:i=c.r);exact st.or (e ▸ hi)
def v8 (k:Int) (S:SS):SS:=if S.e=0 then {S with e:=k}else S
theorem yL {c:SC} {S:SS} {h:H} {ov:AV} (st:St c S h ov) (k:Int):∃h',aR AP.A 45 [.aD c.s 0,I k] h=some (.bM [],h')∧St c (v8 k S) h' ov∧Fr c h ov h' ov:=by
 have gs:=st.gs
 have fs:=st.fs
 by_cases he:S.e=0
 · refine⟨_, ?_,by rw[v8,if_pos he];exact(st.Vr k).1,(st.Vr k).2⟩
   refine wF (fn:=AP.f45) (e:=[]) rfl rfl rfl ?_ rfl
   simp only[I]at *
   simp [AP.f45,params,aL,aw,aj,ai,gs,he,fs]
 · refine⟨h, ?_,by rw[v8,if_neg he];exact st,Fr.refl _ _ _⟩
   refine wF (fn:=AP.f45) (e:=[]) rfl rfl rfl ?_ rfl
   simp only[I]at *
   simp [AP.f45,params,aL,aw,aj,ai,gs,he,fs]
def vU (c:SC) (n:Nat) (S:SS):Nat×SS:=if S.at_+n≤8* c.text.size then(vP c.text S.at_ n,{S with at_:=S.at_+n})else(0,v8 700 S)
theorem Nl {c:SC} {S:SS} {h:H} {ov:AV} (st:St c S h ov) {n:Nat} (hn:n≤16):∃h',aR AP.A 38 [.aD c.s 0,I n] h=some (I ((vU c n S).1:Nat),h')∧St c (vU c n S).2 h' ov∧Fr c h ov h' ov:=by
 have gs:=st.gs
 by_cases hp:S.at_+n≤8* c.text.size
 · have g:=RP h c.r c.text S.at_ n st.gr st.fr st.sz hp hn
   refine⟨_, ?_,by rw[vU,if_pos hp];exact(st.Sa hp).1,(st.Sa hp).2⟩
   rw[vU,if_pos hp]
   refine tZ (fn:=AP.f38) (e:=[(4,I (vP c.text S.at_ n:Nat))]) rfl rfl rfl ?_ rfl
   simp only[I]at *
   simp [AP.f38,params,aL,aw,aj,ai,gs,aX,g]
 · have g:=OQ h c.r c.text S.at_ n st.gr st.sz st.xY (by omega) hn
   obtain⟨h',k1,k2,k3⟩:=yL st 700
   refine⟨h', ?_,by rw[vU,if_neg hp];exact k2,k3⟩
   rw[vU,if_neg hp]
   refine tZ (fn:=AP.f38) (e:=[(4,I 0)]) rfl rfl rfl ?_ rfl
   simp only[I]at *
   simp [AP.f38,params,aL,aw,aj,ai,gs,aX,g,k1]
def Fq (c:SC) (b:Nat) (S:SS):SS:=
 let T:=if c.most≤S.out.length then v8 701 S else S
 if T.e=0 then {T with out:=T.out++[b]}else T
theorem nJ.len {h:H} {v:AV} {cs:List AV} (o:nJ h v cs):jc false v=some (I cs.length):=by
 rcases o with ⟨rfl,rfl⟩|⟨id,rfl,_⟩<;>rfl
theorem NO {c : SC} {S : SS} {h : H} {ov : AV} (st : St c S h ov) {b : Nat} : ∃ h' ov', aR AP.A 59 [.aD c.s 0, .int .u8 b] h = some (.bM [], h') ∧ St c (Fq c b S) h' ov' ∧ Fr c h ov h' ov' := by
 have gs0:=st.gs
 have hol:=st.ol
 have hml:=st.ml
 have ln:=st.own.len
 rw[yN]at ln
 by_cases hm:c.most≤S.out.length
 · obtain⟨h1,k1,k2,k3⟩:=yL st 701
   have he:(v8 701 S).e≠0:=by unfold v8;split<;>simp_all
   have hp:Fq c b S=v8 701 S:=by unfold Fq;simp only[if_pos hm,if_neg he]
   have gs1:=k2.gs
   refine⟨h1,ov, ?_,by rw[hp];exact k2,k3⟩
   refine wF (fn:=AP.f59) (e:=[]) rfl rfl rfl ?_ rfl
   simp only[I]at *
   simp [AP.f59,params,aL,aw,aN,aj,ai,gs0,ln,hm,aX,k1,gs1,he]
 by_cases he:S.e=0
 · have hp:Fq c b S={S with out:=S.out++[b]}:=by unfold Fq;simp only[if_neg hm,if_pos he]
   have hsl:c.s<h.next:=h.lt _ _ st.gs
   have hrl:c.r<h.next:=h.lt _ _ st.gr
   obtain⟨h1,eh1⟩:∃g,g=h.alloc [.int .u8 b]:=⟨_,rfl⟩
   have hlo1:∀i,i≠h.next→h1.get i=h.get i:=fun i q=>by rw[eh1,H.aW,if_neg q]
   have hfl1:h1.floor=h.floor:=by rw[eh1];simp
   have hnx1:h1.next=h.next+1:=by rw[eh1];simp
   have ho1:nJ h1 ov (yM S.out):=st.own.mono hfl1 fun i hi=>hlo1 i (by have:=st.own.lt hi;omega)
   have hnxf:=st.nx
   obtain⟨v',h2,q1,q2,q3,q4,q5,q6⟩:=ho1.app (by omega) (z:=1) (.int .u8 b) rfl (by simp [roomy];omega)
   have hal2:h1.get h.next=some [.int .u8 b]:=by rw[eh1,H.aW,if_pos rfl]
   have gs1:h1.get c.s=some [.aD c.r 0,ov,I c.most,I S.e]:=by rw[hlo1 _ (by omega)];exact st.gs
   have gs2:h2.get c.s=some [.aD c.r 0,ov,I c.most,I S.e]:=by rw[q5 _ st.os (by omega)];exact gs1
   have gr2:h2.get c.r=some [.str c.text,I S.at_]:=by rw[q5 _ st.or (by omega),hlo1 _ (by omega)];exact st.gr
   have fs2:h2.floor≤c.s:=by have:=st.fs;omega
   have hv':v'.cells=[v']∧v'.sc=true:=by
    rcases q2 with ⟨rfl,_⟩|⟨id,rfl,_⟩<;>exact⟨rfl,rfl⟩
   have hby:yM (S.out++[b])=yM S.out++[.int .u8 b]:=by simp [yM]
   refine⟨h2.set c.s [.aD c.r 0,v',I c.most,I S.e],v', ?_, ?_, ?_⟩
   · refine wF (fn:=AP.f59) (e:=[]) rfl rfl rfl ?_ rfl
     simp only[I]at *
     simp [AP.f59,params,aL,aw,aN,aj,ai,bn,aY,dG,dO,kM,aS,gs0,ln,hm,he,←eh1,hal2,gs1,q1,gs2,fs2,hv'.1,hv'.2]
   · rw[hp]
     refine⟨by rw[H.dp,if_pos rfl,gs2];rfl,by rw[H.dp,if_neg (Ne.symm st.sr)];exact gr2, ?_,st.sr,by simpa using fs2,by have:=st.fr;simp;omega, ?_, ?_,by simp;omega,st.sz,st.xY,by simp;omega,st.ml⟩
     · rw[hby]
       refine q2.mono (by simp) fun i hi=> ?_
       rw[q6]at hi;cases hi
       rw[H.dp,if_neg (by omega)]
     · rw[q6];intro e;have:=u6 e;omega
     · rw[q6];intro e;have:=u6 e;omega
   · refine⟨by simp;omega,by simp;omega,fun id a1 a2 a3 a4=> ?_,fun i hi=> ?_⟩
     · rw[H.dp,if_neg a2,q5 id a4 (by omega),hlo1 id (by omega)]
     · rw[q6]at hi;cases hi;right;omega
 · have hp:Fq c b S=S:=by unfold Fq;simp only[if_neg hm,if_neg he]
   refine⟨h,ov, ?_,by rw[hp];exact st,Fr.refl _ _ _⟩
   refine wF (fn:=AP.f59) (e:=[]) rfl rfl rfl ?_ rfl
   simp only[I]at *
   simp [AP.f59,params,aL,aw,aN,aj,ai,gs0,ln,hm,he]
theorem We (h:H) (s:ByteArray):aR AP.A 14 [.str s] h=some (.aD h.next 0,h.alloc [.str s,I 0]):=by
 refine tZ (fn:=AP.f14) (e:=[(2,.aD h.next 0)]) rfl rfl rfl ?_ rfl
 have b:aY [(4,.agg [.str s,I 0]),(3,.str s),(0,.str s)] (.box 2 (.t 4))=some ([.str s,I 0],fun i=>.aD i 0):=rfl
 have f:dO [.str ⟨#[]⟩,.int .i64 0] [(0,1,.str s)]=some [.str s,I 0]:=rfl
 simp only[I]at *
 simp only[AP.f14,go_sem,XX,Yk,f,b]
theorem Ou (h:H) (r:Nat) (s:ByteArray) (p:Nat) (hg:h.get r=some [.str s,I p]) (hf:h.floor≤r) (hs:s.size<1125899906842624) (hp:p≤8* s.size):
 aR AP.A 16 [.aD r 0] h=some (I 0,h.set r [.str s,I ((p+7)/8* 8:Nat)]):=by
 refine tZ (fn:=AP.f16) (e:=[(2,I 0)]) rfl rfl rfl ?_ rfl
 have w1:IntKind.wrap .i64 ((p:Int)+8)=((p+8:Nat):Int):=vL (n:=p+8) (by omega)
 have w2:IntKind.wrap .i64 (((p+8:Nat):Int)-1)=((p+7:Nat):Int):=by
  rw[show((p+8:Nat):Int)-1=((p+7:Nat):Int)by omega];exact vL (by omega)
 have w3:IntKind.wrap .i64 (((p+7:Nat):Int).tdiv 8)=(((p+7)/8:Nat):Int):=by
  rw[show(8:Int)=((8:Nat):Int)from rfl,yw];exact vL (by omega)
 have w4:IntKind.wrap .i64 ((((p+7)/8:Nat):Int)* 8)=(((p+7)/8* 8:Nat):Int):=by
  rw[show(((p+7)/8:Nat):Int)* 8=(((p+7)/8* 8:Nat):Int)by omega];exact vL (by omega)
 have st:∀v,uD h r 1 1 [.int .i64 v] (some [.str s,.int .i64 p])=some (h.set r [.str s,.int .i64 v]):=fun v=>uU hf (by simp) rfl
 have q:bj .quo (.int .i64 ((p+7:Nat):Int)) (.int .i64 8)=some (.int .i64 (((p+7)/8:Nat):Int)):=by rw[sg _ _ _ (by omega),w3]
 simp only[I]at *
 simp only[AP.f16,go_sem,hg,w1,w2,q,w4,st]
theorem VD (h:H) (r:Nat) (s:ByteArray) (p:Nat) (hg:h.get r=some [.str s,I p]):aR AP.A 17 [.aD r 0] h=some (I p,h):=by
 refine tZ (fn:=AP.f17) (e:=[(2,I p)]) rfl rfl rfl ?_ rfl
 simp only[I]at *
 simp only[AP.f17,go_sem,hg]
theorem AH {c:SC} {S:SS} {h:H} {ov:AV} (st:St c S h ov) (n:Nat) (m:Int) (hm:m=n) (hn:n≤16):∃h',aR AP.A 38 [.aD c.s 0,I m] h=some (I ((vU c n S).1:Nat),h')∧St c (vU c n S).2 h' ov∧Fr c h ov h' ov:=by
 subst hm;exact Nl st hn
theorem Lz {c:SC} {S:SS} {h:H} {ov:AV} (st:St c S h ov) {n least:Nat} (hn:n≤16) (hl:least<100000):∃h',aR AP.A 73 [.aD c.s 0,I least,I n,I 0] h=some (I ((least+(vU c n S).1:Nat)),h')∧St c (vU c n S).2 h' ov∧Fr c h ov h' ov:=by
 obtain⟨h',k1,k2,k3⟩:=Nl st hn
 refine⟨h', ?_,k2,k3⟩
 have hb:(vU c n S).1<65536:=by
  unfold vU;split
  · have:=wQ c.text S.at_ n
    have:=XY (show 0<2 by omega) hn
    simp at *;omega
  · simp
 have w:IntKind.wrap .i64 ((least:Int)+((vU c n S).1:Nat))=((least+(vU c n S).1:Nat):Int):=by
  rw[show(least:Int)+((vU c n S).1:Nat)=((least+(vU c n S).1:Nat):Int)by omega];exact vL (by omega)
 refine tZ (fn:=AP.f73) (e:=[(8,I ((least+(vU c n S).1:Nat)))]) rfl rfl rfl ?_ rfl
 simp only[I]at *
 simp only[AP.f73,go_sem,k1,w]
theorem Hd {c:SC} {S:SS} {h:H} {ov:AV} (st:St c S h ov) (he:S.e=0):∃h' S',aR AP.A 73 [.aD c.s 0,I 0,I 0,I 600] h=some (I 0,h')∧St c S' h' ov∧Fr c h ov h' ov∧S'.e=700:=by
 obtain⟨h1,k1,k2,k3⟩:=yL st 700
 obtain⟨h',l1,l2,l3⟩:=Nl k2 (n:=0) (by omega)
 have hS:v8 700 S={S with e:=700}:=by rw[v8,if_pos he]
 have hle:=st.xY
 have hg:vU c 0 (v8 700 S)=(0,v8 700 S):=by
  rw[vU,if_pos (by rw[hS];exact hle)];rfl
 rw[hg]at l1 l2
 have l1':aR AP.A 38 [.aD c.s 0,I 0] h1=some (I 0,h'):=l1
 clear l1
 refine⟨h',_, ?_,l2,k3.trans l3,by rw[hS]⟩
 have w:IntKind.wrap .i64 (0+0)=0:=ud (by omega) (by omega)
 refine tZ (fn:=AP.f73) (e:=[(8,I 0)]) rfl rfl rfl ?_ rfl
 simp only[I]at *
 simp only[AP.f73,go_sem,k1,l1',w]
def xX (t:ByteArray) (l:List Int):Nat→Nat→Nat→Nat→Option (Int×Nat)
 |0,_,_,_=>none
 |k+1,n,v,p=>if p+1≤8* t.size then(match yD l n ((v* 2+vP t p 1:Nat):Int)with|some y=>some (y,p+1)|none=>xX t l k (n+1) (v* 2+vP t p 1) (p+1))else none
theorem JK {c:SC} {S:SS} {h:H} {ov:AV} (st:St c S h ov) (l:List Int) (v n:Nat) (hs:n=16∨(n≤15∧S.e≠0)):
 ∃e',Lp AP.A [0,1,5,6] AP.f60L0 [(0,.aD c.s 0),(1,wE l),(5,I v),(6,I n)] h=some (.exit 0,e',h)∧look e' 0=.aD c.s 0:=by
 have gs:=st.gs
 refine⟨[(0,.aD c.s 0),(1,wE l),(5,I v),(6,I n),(17,.bool false)],tM ?_,rfl⟩
 rcases hs with hn|⟨hn,he⟩
 · have c1:¬(n:Int)≤15:=by omega
   simp only[I]at *
   simp only[AP.f60L0,go_sem,XP c1]
 · have c1:(n:Int)≤15:=by omega
   have c2:(S.e==0)=false:=uH he
   simp only[I]at *
   simp only[AP.f60L0,go_sem,XS c1,gs,c2]
theorem JJ {c : SC} (l : List Int) (hl : l.length < 100000) : ∀ (k n v : Nat) (S : SS) (h : H) (ov : AV), n + k = 16 → 1 ≤ n → v < 2 ^ (n - 1) → St c S h ov → S.e = 0 →
 ∃ h' S', St c S' h' ov ∧ Fr c h ov h' ov ∧ match xX c.text l k n v S.at_ with
   |some (y,p)=>S'={S with at_:=p}∧∃e',Lp AP.A [0,1,5,6] AP.f60L0 [(0,.aD c.s 0),(1,wE l),(5,I v),(6,I n)] h=some (.ret,e',h')∧look e' 4=I y
   |none=>(S'.e=0∨S'.e=700)∧∃e',Lp AP.A [0,1,5,6] AP.f60L0 [(0,.aD c.s 0),(1,wE l),(5,I v),(6,I n)] h=some (.exit 0,e',h')∧look e' 0=.aD c.s 0
 | 0, n, v, S, h, ov, hk, hn, hv, st, he => by
   obtain⟨e',q1,q2⟩:=JK st l v n (.inl (by omega))
   exact⟨h,S,st,Fr.refl _ _ _,by simp only[xX];exact⟨.inl he,e',q1,q2⟩⟩
 | k + 1, n, v, S, h, ov, hk, hn, hv, st, he => by
   have gs:=st.gs
   obtain⟨h1,k1,k2,k3⟩:=AH st 1 1 rfl (by omega)
   obtain⟨x,hx⟩:∃x,x=(vU c 1 S).1:=⟨_,rfl⟩
   obtain⟨S1,hS1⟩:∃x,x=(vU c 1 S).2:=⟨_,rfl⟩
   rw[←hx]at k1;rw[←hS1]at k2
   have hp:2^n≤2^15:=XY (by omega) (by omega)
   have h2:2^(n-1+1)=2^(n-1)* 2:=Nat.pow_succ 2 (n-1)
   rw[show n-1+1=n by omega]at h2
   obtain⟨P,hP⟩:∃P:Nat,P=2^(n-1):=⟨_,rfl⟩
   rw[←hP]at h2 hv
   obtain⟨Q,hQ⟩:∃Q:Nat,Q=2^n:=⟨_,rfl⟩
   rw[←hQ]at h2 hp
   simp only[Nat.reducePow]at hp
   have hx1:x<2:=by
    rw[hx];unfold vU;split
    · have:=wQ c.text S.at_ 1;simpa using this
    · simp
   have hv':v* 2+x<Q:=by omega
   have w1:IntKind.wrap .i64 ((v:Int)* 2)=((v* 2:Nat):Int):=by
    rw[show(v:Int)* 2=((v* 2:Nat):Int)by omega];exact vL (by omega)
   have w2:IntKind.wrap .i64 (((v* 2:Nat):Int)+(x:Int))=((v* 2+x:Nat):Int):=by
    rw[show((v* 2:Nat):Int)+(x:Int)=((v* 2+x:Nat):Int)by omega];exact vL (by omega)
   have w3:IntKind.wrap .i64 ((n:Int)+1)=((n+1:Nat):Int):=vL (n:=n+1) (by omega)
   have c1:(n:Int)≤15:=by omega
   have fc:=QN h1 l hl n hn (by omega) ((v* 2+x:Nat):Int) (by omega) (by omega)
   have gs1:=k2.gs
   have step:(yD l n ((v* 2+x:Nat):Int)=none∨S1.e≠0)→aL (aR AP.A) bq AP.f60L0 (ay [(0,.aD c.s 0),(1,wE l),(5,I v),(6,I n)] [0,1,5,6]) h=some (.normal,[(0,.aD c.s 0),(1,wE l),(5,I (v* 2+x:Nat)),(6,I (n+1:Nat))],h1):=by
    intro hc
    rcases hc with hc|hc
    · rw[hc]at fc
      simp only[I]at *
      simp only[AP.f60L0,go_sem,XS c1,gs,he,k1,w1,w2,fc,w3]
    · have c2:(S1.e==0)=false:=uH hc
      cases hf:yD l n ((v* 2+x:Nat):Int)with
      | none =>
        rw[hf]at fc
        simp only[I]at *
        simp only[AP.f60L0,go_sem,XS c1,gs,he,k1,w1,w2,fc,w3]
      | some y =>
        rw[hf]at fc
        simp only[I]at *
        simp only[AP.f60L0,go_sem,XS c1,gs,he,k1,w1,w2,fc,w3,gs1,c2]
   by_cases hat:S.at_+1≤8* c.text.size
   · have eg:vU c 1 S=(vP c.text S.at_ 1,{S with at_:=S.at_+1}):=by rw[vU,if_pos hat]
     rw[eg]at hx hS1
     dsimp only at hx hS1
     subst hx hS1
     rw[xX,if_pos hat]
     cases hf:yD l n ((v* 2+vP c.text S.at_ 1:Nat):Int)with
     | none =>
       obtain⟨h',S',q1,q2,q3⟩:=JJ l hl k (n+1) (v* 2+vP c.text S.at_ 1) _ h1 ov (by omega) (by omega) (by rw[Nat.add_sub_cancel,←hQ];exact hv') k2 he
       refine⟨h',S',q1,k3.trans q2, ?_⟩
       dsimp only at q3 ⊢
       have sp:=step (.inl hf)
       cases hy:xX c.text l k (n+1) (v* 2+vP c.text S.at_ 1) (S.at_+1)with
       | none =>
         rw[hy]at q3
         obtain⟨q3,e',q4,q5⟩:=q3
         exact⟨q3,e',tN sp q4,q5⟩
       | some y =>
         rw[hy]at q3
         obtain⟨q3,e',q4,q5⟩:=q3
         exact⟨q3,e',tN sp q4,q5⟩
     | some y =>
       refine⟨h1,_,k2,k3,rfl,[(4,I y)],uh ?_,rfl⟩
       rw[hf]at fc
       simp only[I]at *
       simp only[AP.f60L0,go_sem,XS c1,gs,he,k1,w1,w2,fc,w3,gs1]
   · have eg:vU c 1 S=(0,{S with e:=700}):=by rw[vU,if_neg hat,v8,if_pos he]
     rw[eg]at hx hS1
     dsimp only at hx hS1
     subst hx hS1
     rw[xX,if_neg hat]
     have hst:n+1=16∨(n+1≤15∧(700:Int)≠0):=by omega
     obtain⟨e',q1,q2⟩:=JK k2 l (v* 2+0) (n+1) hst
     exact⟨h1,_,k2,k3,.inr rfl,e',tN (step (.inr (by simp))) q1,q2⟩
theorem FI {c:SC} {S:SS} {h:H} {ov:AV} (l:List Int) (hl:l.length<100000) (st:St c S h ov) (he:S.e=0):
 ∃ h' S' y, aR AP.A 60 [.aD c.s 0, wE l] h = some (I y, h') ∧ St c S' h' ov ∧ Fr c h ov h' ov ∧ match xX c.text l 15 1 0 S.at_ with
   |some (z,p)=>S'={S with at_:=p}∧y=z
   |none=>S'.e=700∧y=256:=by
 obtain⟨h1,S1,q1,q2,q3⟩:=JJ l hl 15 1 0 S h ov (by omega) (by omega) (by simp) st he
 cases hy:xX c.text l 15 1 0 S.at_ with
 | some yp =>
   rw[hy]at q3
   obtain⟨q3,e',q4,q5⟩:=q3
   refine⟨h1,S1,yp.1, ?_,q1,q2,q3,rfl⟩
   refine tZ (fn:=AP.f60) (e:=e') (vs:=[I yp.1]) rfl rfl rfl ?_ (by simp only[AP.f60,cw,nC,q5];rfl)
   have q6:Lp AP.A [0,1,5,6] AP.f60L0 [(0,.aD c.s 0),(1,wE l),(5,I 0),(6,I 1)] h=some (.ret,e',h1):=q4
   clear q4
   simp only[I]at *
   simp only[AP.f60,go_sem,sG,q6]
 | none =>
   rw[hy]at q3
   obtain⟨q3,e',q4,q5⟩:=q3
   obtain⟨h2,r1,r2,r3⟩:=yL q1 700
   refine⟨h2,v8 700 S1,256, ?_,r2,q2.trans r3, ?_,rfl⟩
   · refine tZ (fn:=AP.f60) (e:=[(4,I 256)]) rfl rfl rfl ?_ rfl
     have q6:Lp AP.A [0,1,5,6] AP.f60L0 [(0,.aD c.s 0),(1,wE l),(5,I 0),(6,I 1)] h=some (.exit 0,e',h1):=q4
     clear q4
     simp only[I]at *
     simp only[AP.f60,go_sem,sG,q6,q5,r1]
   · rcases q3 with q3|q3<;>simp [v8,q3]
def lenOf (y:Nat):Option (Nat×Nat):=
 if y≤256∨285<y then none else if y=285 then some (258,0)else if y<265 then some (y-254,0)else some (3+(4+(y-257)%4)* 2^((y-257)/4-1),(y-257)/4-1)
def wu (y:Nat):Option (Nat×Nat):=
 if 30≤y then none else if y<4 then some (1+y,0)else some (1+(2+y%2)* 2^(y/2-1),y/2-1)
theorem BB {y a b:Nat} (h:lenOf y=some (a,b)):a≤258∧b≤5∧0<a:=by
 have key:∀y<286,∀a b,lenOf y=some (a,b)→a≤258∧b≤5∧0<a:=by
  intro y hy a b h
  have:((lenOf y).map fun p=>decide (p.1≤258∧p.2≤5∧0<p.1))=(lenOf y).map fun _=>true:=by
   clear h
   revert y
   decide+kernel
  rw[h]at this
  simpa using this
 by_cases hy:y<286
 · exact key y hy a b h
 · rw[lenOf,if_pos (by omega)]at h;cases h
theorem AG {y a b:Nat} (h:wu y=some (a,b)):a≤24577∧b≤13∧0<a:=by
 have key:∀y<30,∀a b,wu y=some (a,b)→a≤24577∧b≤13∧0<a:=by
  intro y hy a b h
  have:((wu y).map fun p=>decide (p.1≤24577∧p.2≤13∧0<p.1))=(wu y).map fun _=>true:=by
   clear h
   revert y
   decide+kernel
  rw[h]at this
  simpa using this
 by_cases hy:y<30
 · exact key y hy a b h
 · rw[wu,if_pos (by omega)]at h;cases h
def zO (o:Option (Nat×Nat)):AV:=match o with
 |some p=>.bM [I p.1,I p.2,I 0]
 |none=>.bM [I 0,I 0,I 600]
theorem K6 (h:H) (y:Nat) (hy:y<1000000):aR AP.A 74 [I y] h=some (zO (lenOf y),h):=by
 have d1:decide ((y:Int)≤256)=decide (y≤256):=by by_cases q:y≤256<;>simp [q]<;>omega
 have w1:IntKind.wrap .i64 ((y:Int)-256)=(y:Int)-256:=ud (by omega) (by omega)
 have w2:IntKind.wrap .i64 ((y:Int)-256-1)=(y:Int)-257:=by rw[show(y:Int)-256-1=(y:Int)-257 by omega];exact ud (by omega) (by omega)
 by_cases c1:y≤256
 · rw[lenOf,if_pos (.inl c1)]
   refine uz (fn:=AP.f74) (h2:=h.dN) (e:=[(2,I 0),(3,I 0),(4,I 600)]) rfl rfl rfl ?_ rfl rfl
   have c1':(y:Int)≤256:=by omega
   simp only[I]at *
   simp only[AP.f74,go_sem,w1,w2,XS c1']
 have c1':¬(y:Int)≤256:=by omega
 by_cases c2:285<y
 · rw[lenOf,if_pos (.inr c2)]
   refine uz (fn:=AP.f74) (h2:=h.dN) (e:=[(2,I 0),(3,I 0),(4,I 600)]) rfl rfl rfl ?_ rfl rfl
   have c2':(285:Int)<y:=by omega
   simp only[I]at *
   simp only[AP.f74,go_sem,w1,w2,XP c1',XS c2']
 have c2':¬(285:Int)<y:=by omega
 rw[lenOf,if_neg (by omega)]
 by_cases c3:y=285
 · rw[if_pos c3]
   refine uz (fn:=AP.f74) (h2:=h.dN) (e:=[(2,I 258),(3,I 0),(4,I 0)]) rfl rfl rfl ?_ rfl rfl
   have c3':((y:Int)==285)=true:=uI (by omega)
   simp only[I]at *
   simp only[AP.f74,go_sem,w1,w2,XP c1',XP c2',c3']
 rw[if_neg c3]
 have c3':((y:Int)==285)=false:=uH (by omega)
 by_cases c4:y<265
 · rw[if_pos c4]
   refine uz (fn:=AP.f74) (h2:=h.dN) (e:=[(2,I (y-254:Nat)),(3,I 0),(4,I 0)]) rfl rfl rfl ?_ rfl rfl
   have c4':(y:Int)-257<8:=by omega
   have w3:IntKind.wrap .i64 (3+((y:Int)-257))=((y-254:Nat):Int):=by rw[show 3+((y:Int)-257)=((y-254:Nat):Int)by omega];exact vL (by omega)
   simp only[I]at *
   simp only[AP.f74,go_sem,w1,w2,XP c1',XP c2',c3',XS c4',w3]
 rw[if_neg c4]
 have c4':¬(y:Int)-257<8:=by omega
 obtain⟨k,hk⟩:∃k:Nat,(y:Int)-257=k:=XT (by omega)
 have hk':y-257=k:=by omega
 rw[hk]at w2 c4'
 rw[hk']
 have q1:bj .quo (.int .i64 (k:Int)) (.int .i64 4)=some (.int .i64 ((k/4:Nat):Int)):=by
  rw[sg _ _ _ (by omega),show(4:Int)=((4:Nat):Int)from rfl,yw,vL (by omega)]
 have q2:bj .rem (.int .i64 (k:Int)) (.int .i64 4)=some (.int .i64 ((k%4:Nat):Int)):=by
  rw[sh _ _ _ (by omega),show(4:Int)=((4:Nat):Int)from rfl,AX]
 have w3:IntKind.wrap .i64 (((k/4:Nat):Int)-1)=((k/4-1:Nat):Int):=by rw[show((k/4:Nat):Int)-1=((k/4-1:Nat):Int)by omega];exact vL (by omega)
 have w4:IntKind.wrap .i64 (4+((k%4:Nat):Int))=((4+k%4:Nat):Int):=by rw[show 4+((k%4:Nat):Int)=((4+k%4:Nat):Int)by omega];exact vL (by omega)
 have hp:2^(k/4-1)≤2^5:=XY (by omega) (by omega)
 have hm:(4+k%4)* 2^(k/4-1)≤7* 2^5:=Yx (by omega) hp
 have q3:pF .shl .i64 ((4+k%4:Nat):Int) ((k/4-1:Nat):Int)=some (.int .i64 (((4+k%4)* 2^(k/4-1):Nat):Int)):=ym (by omega) (by omega)
 generalize (4+k%4)* 2^(k/4-1)=P at *
 have w5:IntKind.wrap .i64 (3+(P:Int))=((3+P:Nat):Int):=by rw[show 3+(P:Int)=((3+P:Nat):Int)by omega];exact vL (by omega)
 refine uz (fn:=AP.f74) (h2:=h.dN) (e:=[(2,I (3+P:Nat)),(3,I (k/4-1:Nat)),(4,I 0)]) rfl rfl rfl ?_ rfl rfl
 simp only[I]at *
 simp only[AP.f74,go_sem,w1,w2,XP c1',XP c2',c3',XP c4',q1,q2,w3,w4,q3,w5]
theorem IB (h:H) (y:Nat) (hy:y<1000000):aR AP.A 75 [I y] h=some (zO (wu y),h):=by
 have c0:¬(y:Int)<0:=by omega
 by_cases c1:30≤y
 · rw[wu,if_pos c1]
   refine uz (fn:=AP.f75) (h2:=h.dN) (e:=[(2,I 0),(3,I 0),(4,I 600)]) rfl rfl rfl ?_ rfl rfl
   have c1':(30:Int)≤y:=by omega
   simp only[I]at *
   simp only[AP.f75,go_sem,XP c0,XS c1']
 have c1':¬(30:Int)≤y:=by omega
 rw[wu,if_neg c1]
 by_cases c2:y<4
 · rw[if_pos c2]
   refine uz (fn:=AP.f75) (h2:=h.dN) (e:=[(2,I (1+y:Nat)),(3,I 0),(4,I 0)]) rfl rfl rfl ?_ rfl rfl
   have c2':(y:Int)<4:=by omega
   have w3:IntKind.wrap .i64 (1+(y:Int))=((1+y:Nat):Int):=by rw[show 1+(y:Int)=((1+y:Nat):Int)by omega];exact vL (by omega)
   simp only[I]at *
   simp only[AP.f75,go_sem,XP c0,XP c1',XS c2',w3]
 rw[if_neg c2]
 have c2':¬(y:Int)<4:=by omega
 have q1:bj .quo (.int .i64 (y:Int)) (.int .i64 2)=some (.int .i64 ((y/2:Nat):Int)):=by
  rw[sg _ _ _ (by omega),show(2:Int)=((2:Nat):Int)from rfl,yw,vL (by omega)]
 have q2:bj .rem (.int .i64 (y:Int)) (.int .i64 2)=some (.int .i64 ((y%2:Nat):Int)):=by
  rw[sh _ _ _ (by omega),show(2:Int)=((2:Nat):Int)from rfl,AX]
 have w3:IntKind.wrap .i64 (((y/2:Nat):Int)-1)=((y/2-1:Nat):Int):=by rw[show((y/2:Nat):Int)-1=((y/2-1:Nat):Int)by omega];exact vL (by omega)
 have w4:IntKind.wrap .i64 (2+((y%2:Nat):Int))=((2+y%2:Nat):Int):=by rw[show 2+((y%2:Nat):Int)=((2+y%2:Nat):Int)by omega];exact vL (by omega)
 have hp:2^(y/2-1)≤2^13:=XY (by omega) (by omega)
 have hm:(2+y%2)* 2^(y/2-1)≤3* 2^13:=Yx (by omega) hp
 have q3:pF .shl .i64 ((2+y%2:Nat):Int) ((y/2-1:Nat):Int)=some (.int .i64 (((2+y%2)* 2^(y/2-1):Nat):Int)):=ym (by omega) (by omega)
 generalize (2+y%2)* 2^(y/2-1)=P at *
 have w5:IntKind.wrap .i64 (1+(P:Int))=((1+P:Nat):Int):=by rw[show 1+(P:Int)=((1+P:Nat):Int)by omega];exact vL (by omega)
 refine uz (fn:=AP.f75) (h2:=h.dN) (e:=[(2,I (1+P:Nat)),(3,I (y/2-1:Nat)),(4,I 0)]) rfl rfl rfl ?_ rfl rfl
 simp only[I]at *
 simp only[AP.f75,go_sem,XP c0,XP c1',XP c2',q1,q2,w3,w4,q3,w5]
abbrev Rs:=Except Int (Nat×List Nat)
def Fin (r:Rs) (S:SS):Prop:=match r with
 | .ok q=>S=⟨q.1,q.2,0⟩
 | .error k=>S.e=k∧k≠0
theorem HP {c:SC} {S:SS} (b:Nat) (he:S.e=0) (hm:¬c.most≤S.out.length):Fq c b S=⟨S.at_,S.out++[b],0⟩:=by
 simp only[Fq,if_neg hm,he,if_true]
theorem DN {c:SC} {S:SS} (b:Nat) (he:S.e=0) (hm:c.most≤S.out.length):(Fq c b S).e=701:=by
 simp [Fq,hm,v8,he]
def xp (t:ByteArray) (most:Int):Nat→Nat→List Nat→Rs
 |0,p,out=>.ok (p,out)
 |n+1,p,out=>if p+8≤8* t.size then(if most≤out.length then .error 701 else xp t most n (p+8) (out++[vP t p 8]))else .error 700
theorem Af {c:SC} {S:SS} {h:H} {ov:AV} (st:St c S h ov) (n:Nat) (hs:n=0∨S.e≠0):
 ∃e',Lp AP.A [0,2] AP.f39L0 [(0,.aD c.s 0),(2,I n)] h=some (.exit 0,e',h):=by
 have gs:=st.gs
 refine⟨[(0,.aD c.s 0),(2,I n),(26,.bool false)],tM ?_⟩
 by_cases hn:n=0
 · have c1:¬(0:Int)<n:=by omega
   simp only[I]at *
   simp only[AP.f39L0,go_sem,XP c1]
 · have c1:(0:Int)<n:=by omega
   have c2:(S.e==0)=false:=uH (by omega)
   simp only[I]at *
   simp only[AP.f39L0,go_sem,XS c1,gs,c2]
theorem FG {c : SC} : ∀ (n : Nat) (S : SS) (h : H) (ov : AV), St c S h ov → S.e = 0 → n ≤ 65535 →
 ∃e' h' ov' S',Lp AP.A [0,2] AP.f39L0 [(0,.aD c.s 0),(2,I n)] h=some (.exit 0,e',h')∧St c S' h' ov'∧Fr c h ov h' ov'∧Fin (xp c.text c.most n S.at_ S.out) S'
 | 0, S, h, ov, st, he, hn => by
   obtain⟨e',q⟩:=Af st 0 (.inl rfl)
   exact⟨e',h,ov,S,q,st,Fr.refl _ _ _,by simp only[xp,Fin];cases S;simp_all⟩
 | n + 1, S, h, ov, st, he, hn => by
   have gs:=st.gs
   obtain⟨h1,k1,k2,k3⟩:=AH st 8 8 rfl (by omega)
   have gs1:=k2.gs
   have c1:(0:Int)<((n+1:Nat):Int):=by omega
   have w1:IntKind.wrap .i64 (((n+1:Nat):Int)-1)=(n:Int):=by rw[show((n+1:Nat):Int)-1=(n:Int)by omega];exact vL (by omega)
   by_cases hp:S.at_+8≤8* c.text.size
   · have eg:vU c 8 S=(vP c.text S.at_ 8,{S with at_:=S.at_+8}):=by rw[vU,if_pos hp]
     rw[eg]at k1 k2 gs1
     dsimp only at k1 k2 gs1
     obtain⟨h2,ov2,p1,p2,p3⟩:=NO k2 (b:=vP c.text S.at_ 8)
     have hb:=wQ c.text S.at_ 8
     have w2:IntKind.wrap .u8 ((vP c.text S.at_ 8:Nat):Int)=((vP c.text S.at_ 8:Nat):Int):=wrap_u8 (by simpa using hb)
     have step:aL (aR AP.A) bq AP.f39L0 (ay [(0,.aD c.s 0),(2,I (n+1:Nat))] [0,2]) h=some (.normal,[(0,.aD c.s 0),(2,I n)],h2):=by
      simp only[I]at *
      simp only[AP.f39L0,go_sem,XS c1,gs,he,k1,gs1,w2,p1,w1]
     rw[xp,if_pos hp]
     by_cases hm:c.most≤S.out.length
     · rw[if_pos hm]
       have hl:=DN (c:=c) (S:={S with at_:=S.at_+8}) (vP c.text S.at_ 8) he hm
       obtain⟨e',q⟩:=Af p2 n (.inr (by rw[hl];decide))
       exact⟨e',h2,ov2,_,tN step q,p2,k3.trans p3,hl,by decide⟩
     · rw[if_neg hm]
       rw[HP (S:={S with at_:=S.at_+8}) _ he hm]at p2
       obtain⟨e',h',ov',S',q1,q2,q3,q4⟩:=FG n _ h2 ov2 p2 rfl (by omega)
       exact⟨e',h',ov',S',tN step q1,q2,(k3.trans p3).trans q3,q4⟩
   · have eg:vU c 8 S=(0,{S with e:=700}):=by rw[vU,if_neg hp,v8,if_pos he]
     rw[eg]at k1 k2 gs1
     dsimp only at k1 k2 gs1
     have step:aL (aR AP.A) bq AP.f39L0 (ay [(0,.aD c.s 0),(2,I (n+1:Nat))] [0,2]) h=some (.normal,[(0,.aD c.s 0),(2,I n)],h1):=by
      simp only[I]at *
      simp only[AP.f39L0,go_sem,XS c1,gs,he,k1,gs1,w1]
     rw[xp,if_neg hp]
     obtain⟨e',q⟩:=Af k2 n (.inr (by simp))
     exact⟨e',h1,ov,_,tN step q,k2,k3,rfl,by decide⟩
def xV (t:ByteArray) (most:Int) (p0:Nat) (out:List Nat):Rs:=
 let p:=(p0+7)/8* 8
 if p+32≤8* t.size then(if vP t p 16+vP t (p+16) 16=65535 then xp t most (vP t p 16) (p+32) out else .error 700)else .error 700
theorem JQ {n:Nat} (hn:n<65536):bits .xor .i64 (n:Int) 65535=((65535-n:Nat):Int):=by
 have h1:n<2^16:=by simpa using hn
 show IntKind.wrap .i64 (((BitVec.ofInt 64 (n:Int)^^^BitVec.ofInt 64 ((65535:Nat):Int)).toNat:Nat):Int)=_
 rw[BitVec.toNat_xor,ze 64 n (by omega),ze 64 65535 (by omega)]
 have h2:n^^^65535=65535-n:=by
  have:65535-n=2^16-(n+1):=by omega
  rw[this]
  apply Nat.eq_of_testBit_eq
  intro i
  rw[Nat.testBit_two_pow_sub_succ h1,Nat.testBit_xor,show 65535=2^16-1 from rfl,Nat.testBit_two_pow_sub_one]
  by_cases hi:i<16
  · simp [hi]
  · have:n.testBit i=false:=Nat.testBit_lt_two_pow (Nat.lt_of_lt_of_le h1 (XY (by omega) (by omega)))
    simp [hi,this]
 rw[h2];exact vL (by omega)
theorem St.align {c:SC} {S:SS} {h:H} {ov:AV} (st:St c S h ov):∃h',aR AP.A 16 [.aD c.r 0] h=some (I 0,h')∧St c {S with at_:=(S.at_+7)/8* 8} h' ov∧Fr c h ov h' ov:=by
 have hle:=st.xY
 have:=st.Sa (p:=(S.at_+7)/8* 8) (by omega)
 exact⟨_,Ou h c.r c.text S.at_ st.gr st.fr st.sz st.xY,this.1,this.2⟩
theorem N9 {c : SC} {S : SS} {h : H} {ov : AV} (st : St c S h ov) (he : S.e = 0) :
 ∃h' ov' S',aR AP.A 39 [.aD c.s 0] h=some (.bM [],h')∧St c S' h' ov'∧Fr c h ov h' ov'∧Fin (xV c.text c.most S.at_ S.out) S':=by
 have gs:=st.gs
 obtain⟨h1,a1,a2,a3⟩:=st.align
 obtain⟨p,hp⟩:∃p,p=(S.at_+7)/8* 8:=⟨_,rfl⟩
 rw[←hp]at a2
 have hS:xV c.text c.most S.at_ S.out=if p+32≤8* c.text.size then(if vP c.text p 16+vP c.text (p+16) 16=65535 then xp c.text c.most (vP c.text p 16) (p+32) S.out else .error 700)else .error 700:=by
  rw[hp];rfl
 rw[hS];clear hS
 obtain⟨h2,b1,b2,b3⟩:=AH a2 16 16 rfl (by omega)
 obtain⟨h3,d1,d2,d3⟩:=AH b2 16 16 rfl (by omega)
 obtain⟨n,hn⟩:∃n,n=(vU c 16 {S with at_:=p}).1:=⟨_,rfl⟩
 obtain⟨S2,hS2⟩:∃n,n=(vU c 16 {S with at_:=p}).2:=⟨_,rfl⟩
 obtain⟨m,hm⟩:∃n,n=(vU c 16 S2).1:=⟨_,rfl⟩
 obtain⟨S3,hS3⟩:∃n,n=(vU c 16 S2).2:=⟨_,rfl⟩
 rw[←hn]at b1;rw[←hS2]at b2 d1 d2;rw[←hm]at d1;rw[←hS3]at d2
 have hn16:n<65536:=by
  rw[hn];unfold vU;split
  · simpa using wQ c.text p 16
  · simp
 have x1:=JQ hn16
 by_cases hx:m=65535-n
 · have c1:((m:Int) !=((65535-n:Nat):Int))=false:=uJ (by omega)
   have fin:∀e' h',Lp AP.A [0,2] AP.f39L0 [(0,.aD c.s 0),(2,I n)] h3=some (.exit 0,e',h')→aR AP.A 39 [.aD c.s 0] h=some (.bM [],h'):=by
    intro e' h' q
    refine wF (fn:=AP.f39) (e:=[]) rfl rfl rfl ?_ rfl
    simp only[I]at *
    simp only[AP.f39,go_sem,sG,gs,a1,b1,d1,x1,c1,q]
   by_cases h32:p+32≤8* c.text.size
   · have e2:vU c 16 {S with at_:=p}=(vP c.text p 16,{S with at_:=p+16}):=by rw[vU,if_pos (by show p+16≤_;omega)]
     rw[e2]at hn hS2;dsimp only at hn hS2;subst hS2
     have e3:vU c 16 {S with at_:=p+16}=(vP c.text (p+16) 16,{S with at_:=p+16+16}):=by rw[vU,if_pos (by show p+16+16≤_;omega)]
     rw[e3]at hm hS3;dsimp only at hm hS3;subst hS3
     rw[if_pos h32,←hn,←hm,if_pos (by omega)]
     obtain⟨e',h',ov',S',q1,q2,q3,q4⟩:=FG n _ h3 ov d2 he (by omega)
     exact⟨h',ov',S',fin e' h' q1,q2,((a3.trans b3).trans d3).trans q3,q4⟩
   · rw [if_neg h32]
     have he3:S3.e=700:=by
      rw[hS3,hS2]
      unfold vU
      by_cases q1:p+16≤8* c.text.size
      · simp only[if_pos q1]
        rw[if_neg (by omega)];simp [v8,he]
      · simp only[if_neg q1,v8,he,if_true]
        split<;>simp
     obtain⟨e',q⟩:=Af d2 n (.inr (by rw[he3];decide))
     exact⟨h3,ov,S3,fin e' h3 q,d2,(a3.trans b3).trans d3,he3,by decide⟩
 · have c1:((m:Int) !=((65535-n:Nat):Int))=true:=uK (by omega)
   obtain⟨h4,f1,f2,f3⟩:=yL d2 700
   have he4:(v8 700 S3).e=700:=by
    have:S3.e=0∨S3.e=700:=by
     rw[hS3,hS2]
     unfold vU
     by_cases q1:p+16≤8* c.text.size
     · simp only[if_pos q1]
       split<;>simp [v8,he]
     · simp only[if_neg q1,v8,he,if_true]
       split<;>simp
    rcases this with q|q<;>simp [v8,q]
   obtain⟨e',q⟩:=Af f2 n (.inr (by rw[he4];decide))
   refine⟨h4,ov,v8 700 S3, ?_,f2,((a3.trans b3).trans d3).trans f3, ?_⟩
   · refine wF (fn:=AP.f39) (e:=[]) rfl rfl rfl ?_ rfl
     simp only[I]at *
     simp only[AP.f39,go_sem,sG,gs,a1,b1,d1,x1,c1,f1,q]
   · by_cases h32:p+32≤8* c.text.size
     · have e2:vU c 16 {S with at_:=p}=(vP c.text p 16,{S with at_:=p+16}):=by rw[vU,if_pos (by show p+16≤_;omega)]
       rw[e2]at hn hS2;dsimp only at hn hS2;subst hS2
       have e3:vU c 16 {S with at_:=p+16}=(vP c.text (p+16) 16,{S with at_:=p+16+16}):=by rw[vU,if_pos (by show p+16+16≤_;omega)]
       rw[e3]at hm hS3;dsimp only at hm hS3
       rw[if_pos h32,←hn,←hm,if_neg (by omega)]
       exact⟨he4,by decide⟩
     · rw[if_neg h32];exact⟨he4,by decide⟩
def ya (most:Int) (d:Nat):Nat→List Nat→Except Int (List Nat)
 |0,out=>.ok out
 |n+1,out=>if most≤out.length then .error 701 else ya most d n (out++[out.getD (out.length-d) 0])
def JR (l:List Nat):Prop:=∀b∈l,b<256
theorem AE {c:SC} {S:SS} {h:H} {ov:AV} (st:St c S h ov) (n d:Nat) (hs:n=0∨S.e≠0):
 ∃e',Lp AP.A [0,6,8] AP.f61L0 [(0,.aD c.s 0),(6,I n),(8,I d)] h=some (.exit 0,e',h):=by
 have gs:=st.gs
 refine⟨[(0,.aD c.s 0),(6,I n),(8,I d),(53,.bool false)],tM ?_⟩
 by_cases hn:n=0
 · have c1:¬(0:Int)<n:=by omega
   simp only[I]at *
   simp only[AP.f61L0,go_sem,XP c1]
 · have c1:(0:Int)<n:=by omega
   have c2:(S.e==0)=false:=uH (by omega)
   simp only[I]at *
   simp only[AP.f61L0,go_sem,XS c1,gs,c2]
theorem nJ.elem {h:H} {v:AV} {cs:List AV} (o:nJ h v cs) {i:Nat} {x:AV} (hx:cs[i]?=some x):∃id,v=.aE id 0 cs.length 1∧fM 1 v (I i)=some (.aD id i)∧h.get id=some cs:=by
 have hi:i<cs.length:=(vh.1 hx).1
 rcases o with ⟨rfl,rfl⟩|⟨id,rfl,h1,_⟩
 · simp at hi
 · exact⟨id,rfl,by simp [fM,kj hi],h1⟩
theorem KN {l:List Nat} {i:Nat} (h:i<l.length):(yM l)[i]?=some (.int .u8 (l.getD i 0:Nat)):=by
 simp [yM,vx,h,List.getD]
theorem Gh {c:SC} (d:Nat) (hd:0<d):∀(n:Nat) (S:SS) (h:H) (ov:AV),St c S h ov→S.e=0→d≤S.out.length→n≤65535→
 ∃ e' h' ov' S', Lp AP.A [0, 6, 8] AP.f61L0 [(0, .aD c.s 0), (6, I n), (8, I d)] h = some (.exit 0, e', h') ∧ St c S' h' ov' ∧ Fr c h ov h' ov' ∧ match ya c.most d n S.out with
   | .ok o=>S'={S with out:=o}
   | .error k=>S'.e=k∧k≠0
 | 0, S, h, ov, st, he, hl, hn => by
   obtain⟨e',q⟩:=AE st 0 d (.inl rfl)
   exact⟨e',h,ov,S,q,st,Fr.refl _ _ _,by simp only[ya]⟩
 | n + 1, S, h, ov, st, he, hl, hn => by
   have gs:=st.gs
   have hol:=st.ol
   have hml:=st.ml
   have ln:=st.own.len
   rw[yN]at ln
   have c1:(0:Int)<((n+1:Nat):Int):=by omega
   have w1:IntKind.wrap .i64 (((n+1:Nat):Int)-1)=(n:Int):=by rw[show((n+1:Nat):Int)-1=(n:Int)by omega];exact vL (by omega)
   have w2:IntKind.wrap .i64 ((S.out.length:Int)-d)=((S.out.length-d:Nat):Int):=by rw[show(S.out.length:Int)-d=((S.out.length-d:Nat):Int)by omega];exact vL (by omega)
   have hb:=KN (l:=S.out) (i:=S.out.length-d) (by omega)
   obtain⟨id,i1,i2,i3⟩:=st.own.elem hb
   obtain⟨h2,ov2,p1,p2,p3⟩:=NO st (b:=S.out.getD (S.out.length-d) 0)
   have step:aL (aR AP.A) bq AP.f61L0 (ay [(0,.aD c.s 0),(6,I (n+1:Nat)),(8,I d)] [0,6,8]) h=some (.normal,[(0,.aD c.s 0),(6,I n),(8,I d)],h2):=by
    clear i1
    simp only[I]at *
    simp only[AP.f61L0,go_sem,XS c1,gs,he,ln,w2,i2,i3,hb,p1,w1]
   rw[ya]
   by_cases hm:c.most≤S.out.length
   · rw[if_pos hm]
     have hl:=DN (c:=c) (S:=S) (S.out.getD (S.out.length-d) 0) he hm
     obtain⟨e',q⟩:=AE p2 n d (.inr (by rw[hl];decide))
     exact⟨e',h2,ov2,_,tN step q,p2,p3,hl,by decide⟩
   · rw[if_neg hm]
     rw[HP _ he hm]at p2
     obtain⟨e',h',ov',S',q1,q2,q3,q4⟩:=Gh d hd n _ h2 ov2 p2 rfl (by simp;omega) (by omega)
     refine⟨e',h',ov',S',tN step q1,q2,p3.trans q3, ?_⟩
     dsimp only at q4 ⊢
     rw[he]
     exact q4
def yW (t : ByteArray) (most : Int) (dl : List Int) (y : Nat) (p : Nat) (out : List Nat) : Rs :=
 match lenOf y with
 |none=>.error 700
 | some (least, extra) =>
   if p+extra≤8* t.size then
    match xX t dl 15 1 0 (p+extra)with
    |none=>.error 700
    | some (z, p2) => match wu z.toNat with
      |none=>.error 700
      | some (ld, xd) =>
        if p2+xd≤8* t.size∧ld+vP t p2 xd≤out.length then
         (match ya most (ld+vP t p2 xd) (least+vP t p extra) out with
         | .ok o=>.ok (p2+xd,o)
         | .error k=>.error k)
        else .error 700
   else .error 700
theorem Ob {l:List Int} {n:Nat} {y:Int} (h:y∈syms l n):0≤y∧y<l.length:=by
 unfold syms at h
 split at h
 · cases h
 · rw[List.mem_filterMap]at h
   obtain⟨q,hq,h⟩:=h
   split at h
   · obtain rfl:=u6 h
     have:=List.mem_zipIdx hq
     omega
   · cases h
theorem Ng {l:List Int} {n:Nat} {v y:Int} (h:yD l n v=some y):0≤y∧y<l.length:=by
 unfold yD at h
 split at h
 · exact Ob (vq h)
 · cases h
theorem yf {t : ByteArray} {l : List Int} : ∀ {k n v p : Nat} {y : Int} {p2 : Nat}, xX t l k n v p = some (y, p2) → 0 ≤ y ∧ y < l.length ∧ p < p2 ∧ p2 ≤ 8 * t.size
 |0,_,_,_,_,_,h=>by cases h
 | k + 1, n, v, p, y, p2, h => by
   rw[xX]at h
   split at h
   · split at h
     · rename_i hf
       obtain⟨rfl,rfl⟩:=u9 (u6 h)
       have:=Ng hf
       omega
     · have:=yf h
       omega
   · cases h
theorem MW {c : SC} {S : SS} {h : H} {ov : AV} (dl : List Int) (hdl : dl.length < 100000) (st : St c S h ov) (he : S.e = 0) (y : Nat) (hy : y < 100000) :
 ∃h' ov' S',aR AP.A 61 [.aD c.s 0,I y,wE dl] h=some (.bM [],h')∧St c S' h' ov'∧Fr c h ov h' ov'∧Fin (yW c.text c.most dl y S.at_ S.out) S':=by
 have lo:=K6 h y (by omega)
 unfold yW
 cases hlo:lenOf y with
 | none =>
   rw[hlo]at lo
   obtain⟨h1,S1,k1,k2,k3,k4⟩:=Hd st he
   have gs1:=k2.gs
   have c1:(S1.e !=0)=true:=uK (by omega)
   refine⟨h1,ov,S1, ?_,k2,k3,k4,by decide⟩
   refine tZ (fn:=AP.f61) (e:=[(0,.aD c.s 0),(2,wE dl),(6,I 0),(20,.bool true)]) (vs:=[]) rfl rfl rfl ?_ rfl
   simp only[I,zO]at *
   simp only[AP.f61,go_sem,lo,k1,gs1,c1]
 | some le =>
   obtain⟨least,extra⟩:=le
   rw[hlo]at lo
   obtain⟨b1,b2,b3⟩:=BB hlo
   obtain⟨h1,k1,k2,k3⟩:=Lz st (n:=extra) (least:=least) (by omega) (by omega)
   dsimp only
   by_cases hp:S.at_+extra≤8* c.text.size
   · have eg : vU c extra S = (vP c.text S.at_ extra, { S with at_ := S.at_ + extra }) := by rw [vU, if_pos hp]
     rw[eg]at k1 k2
     dsimp only at k1 k2
     rw[if_pos hp]
     have gs1:=k2.gs
     have hve:=wQ c.text S.at_ extra
     have hve2:2^extra≤2^5:=XY (by omega) b2
     obtain⟨h2,S2,z,s1,s2,s3,s4⟩:=FI dl hdl k2 he
     have gs2:=s2.gs
     have c1:(S.e !=0)=false:=uJ he
     dsimp only at s4 gs1
     cases hz:xX c.text dl 15 1 0 (S.at_+extra)with
     | none =>
       rw[hz]at s4
       obtain⟨s4,s5⟩:=s4
       have c2:(S2.e !=0)=true:=uK (by omega)
       refine⟨h2,ov,S2, ?_,s2,k3.trans s3,s4,by decide⟩
       refine tZ (fn:=AP.f61) (e:=[(0,.aD c.s 0),(6,I (least+vP c.text S.at_ extra:Nat)),(7,I z),(28,.bool true)]) (vs:=[]) rfl rfl rfl ?_ rfl
       simp only[I,zO]at *
       simp only[AP.f61,go_sem,lo,k1,gs1,c1,s1,gs2,c2]
     | some zp =>
       obtain⟨z2,p2⟩:=zp
       rw[hz]at s4
       obtain⟨s4,s5⟩:=s4
       subst s5 s4
       have zb:=yf hz
       obtain⟨zn,hzn⟩:∃n:Nat,z=n:=XT zb.1
       subst hzn
       have dob:=IB h2 zn (by omega)
       have c2:(S.e !=0)=false:=uJ he
       dsimp only at gs2 ⊢
       rw[Yo]
       cases hdo:wu zn with
       | none =>
         rw[hdo]at dob
         obtain⟨h3,S3,v1,v2,v3,v4⟩:=Hd s2 he
         have gs3:=v2.gs
         have ln:=v2.own.len
         rw[yN]at ln
         have hn0:¬((S3.out.length:Int)<0):=by omega
         obtain⟨e',q⟩:=AE v2 (least+vP c.text S.at_ extra) 0 (.inr (by rw[v4];decide))
         refine⟨h3,ov,S3, ?_,v2,(k3.trans s3).trans v3,v4,by decide⟩
         refine wF (fn:=AP.f61) (e:=[]) (vs:=[]) rfl rfl rfl ?_ rfl
         have q':Lp AP.A [0,6,8] AP.f61L0 [(0,.aD c.s 0),(6,I (least+vP c.text S.at_ extra:Nat)),(8,I 0)] h3=some (.exit 0,e',h3):=q
         clear q
         simp only[I,zO]at *
         simp only[AP.f61,go_sem,sG,lo,k1,gs1,c1,s1,gs2,c2,dob,v1,gs3,ln,XP hn0,q']
       | some lx =>
         obtain⟨ld,xd⟩:=lx
         rw[hdo]at dob
         obtain⟨d1,d2,d3⟩:=AG hdo
         obtain⟨h3,v1,v2,v3⟩:=Lz s2 (n:=xd) (least:=ld) (by omega) (by omega)
         obtain⟨x,hx⟩:∃x,x=(vU c xd {S with at_:=p2}).1:=⟨_,rfl⟩
         obtain⟨S3,hS3⟩:∃x,x=(vU c xd {S with at_:=p2}).2:=⟨_,rfl⟩
         rw[←hx]at v1;rw[←hS3]at v2
         have ho3:S3.out=S.out:=by rw[hS3];unfold vU;split<;>simp [v8];split<;>rfl
         have gs3:=v2.gs
         have ln:=v2.own.len
         rw[yN]at ln
         dsimp only
         by_cases hbk:S3.out.length<ld+x
         · have hbk':(S3.out.length:Int)<((ld+x:Nat):Int):=by omega
           obtain⟨h4,f1,f2,f3⟩:=yL v2 700
           have he4:(v8 700 S3).e=700:=by
            have:S3.e=0∨S3.e=700:=by
             rw[hS3];unfold vU;split
             · exact .inl he
             · right;simp [v8,he]
            rcases this with q|q<;>simp [v8,q]
           have hneg:¬(p2+xd≤8* c.text.size∧ld+vP c.text p2 xd≤S.out.length):=by
            intro ⟨q1,q2⟩
            have:vU c xd {S with at_:=p2}=(vP c.text p2 xd,{S with at_:=p2+xd}):=by rw[vU,if_pos q1]
            rw[this]at hx;dsimp only at hx;rw[ho3]at hbk;omega
           rw[if_neg hneg]
           obtain⟨e',q⟩:=AE f2 (least+vP c.text S.at_ extra) (ld+x) (.inr (by rw[he4];decide))
           refine⟨h4,ov,v8 700 S3, ?_,f2,((k3.trans s3).trans v3).trans f3,he4,by decide⟩
           refine wF (fn:=AP.f61) (e:=[]) (vs:=[]) rfl rfl rfl ?_ rfl
           simp only[I,zO]at *
           simp only[AP.f61,go_sem,sG,lo,k1,gs1,c1,s1,gs2,c2,dob,v1,gs3,ln,XS hbk',f1,q]
         · have hbk':¬(S3.out.length:Int)<((ld+x:Nat):Int):=by omega
           have fin:∀e' h',Lp AP.A [0,6,8] AP.f61L0 [(0,.aD c.s 0),(6,I (least+vP c.text S.at_ extra:Nat)),(8,I (ld+x:Nat))] h3=some (.exit 0,e',h')→aR AP.A 61 [.aD c.s 0,I y,wE dl] h=some (.bM [],h'):=by
            intro e' h' q
            refine wF (fn:=AP.f61) (e:=[]) (vs:=[]) rfl rfl rfl ?_ rfl
            simp only[I,zO]at *
            simp only[AP.f61,go_sem,sG,lo,k1,gs1,c1,s1,gs2,c2,dob,v1,gs3,ln,XP hbk',q]
           by_cases hp2:p2+xd≤8* c.text.size
           · have:vU c xd {S with at_:=p2}=(vP c.text p2 xd,{S with at_:=p2+xd}):=by rw[vU,if_pos hp2]
             rw[this]at hx hS3;dsimp only at hx hS3
             subst hx hS3
             dsimp only at hbk
             rw[if_pos ⟨hp2,by omega⟩]
             obtain⟨e',h',ov',S',q1,q2,q3,q4⟩:=Gh (c:=c) (ld+vP c.text p2 xd) (by omega) (least+vP c.text S.at_ extra) _ h3 ov v2 he (by dsimp only;omega) (by omega)
             refine⟨h',ov',S',fin e' h' q1,q2,((k3.trans s3).trans v3).trans q3, ?_⟩
             dsimp only at q4
             cases hcl:ya c.most (ld+vP c.text p2 xd) (least+vP c.text S.at_ extra) S.out with
             |ok o=>rw[hcl]at q4;rw[he]at q4;exact q4
             |error k=>rw[hcl]at q4;exact q4
           · rw[if_neg (fun q=>hp2 q.1)]
             have he3:S3.e=700:=by
              rw[hS3,vU,if_neg hp2];simp [v8,he]
             obtain⟨e',q⟩:=AE v2 (least+vP c.text S.at_ extra) (ld+x) (.inr (by rw[he3];decide))
             exact⟨h3,ov,S3,fin e' h3 q,v2,(k3.trans s3).trans v3,he3,by decide⟩
   · have eg:vU c extra S=(0,{S with e:=700}):=by rw[vU,if_neg hp,v8,if_pos he]
     rw[eg]at k1 k2
     dsimp only at k1 k2
     rw[if_neg hp]
     have gs1:=k2.gs
     refine⟨h1,ov,_, ?_,k2,k3,rfl,by decide⟩
     refine tZ (fn:=AP.f61) (e:=[(0,.aD c.s 0),(2,wE dl),(6,I (least+0:Nat)),(20,.bool true)]) (vs:=[]) rfl rfl rfl ?_ rfl
     simp only[I,zO]at *
     simp only[AP.f61,go_sem,lo,k1,gs1]
def xy (t : ByteArray) (most : Int) (ll dl : List Int) : Nat → Nat → List Nat → Rs
 |0,_,_=>.error 700
 | k + 1, p, out => match xX t ll 15 1 0 p with
   |none=>.error 700
   | some (y, p1) =>
     if y<256 then(if most≤out.length then .error 701 else xy t most ll dl k p1 (out++[y.toNat]))
     else if y=256 then .ok (p1,out)
     else match yW t most dl y.toNat p1 out with
      | .ok (p2,o)=>xy t most ll dl k p2 o
      | .error e=>.error e
theorem EP {t : ByteArray} {most : Int} {dl : List Int} {y p : Nat} {out o : List Nat} {p2 : Nat} (h : yW t most dl y p out = .ok (p2, o)) : p ≤ p2 ∧ p2 ≤ 8 * t.size := by
 unfold yW at h
 split at h
 · cases h
 · split at h
   · split at h
     · cases h
     · rename_i hs
       have:=yf hs
       split at h
       · cases h
       · split at h
         · rename_i hq
           split at h
           · have:=Yh (fun r:Rs=>match r with| .ok q=>q.1|_=>0) h
             dsimp only at this
             omega
           · cases h
         · cases h
   · cases h
theorem EM {c:SC} {S:SS} {h:H} {ov:AV} (st:St c S h ov) (a b:AV) (hs:S.e≠0):
 ∃e',Lp AP.A [0,1,2] AP.f40L0 [(0,.aD c.s 0),(1,a),(2,b)] h=some (.exit 0,e',h):=by
 have gs:=st.gs
 refine⟨[(0,.aD c.s 0),(1,a),(2,b),(11,.bool false)],tM ?_⟩
 have c2:(S.e==0)=false:=uH hs
 simp only[I]at *
 simp only[AP.f40L0,go_sem,gs,c2]
theorem Cf {c : SC} (ll dl : List Int) (hll : ll.length < 100000) (hdl : dl.length < 100000) : ∀ (k : Nat) (S : SS) (h : H) (ov : AV), St c S h ov → S.e = 0 → 8 * c.text.size < S.at_ + k →
 ∃e' h' ov' S',(Lp AP.A [0,1,2] AP.f40L0 [(0,.aD c.s 0),(1,wE ll),(2,wE dl)] h=some (.ret,e',h')∨Lp AP.A [0,1,2] AP.f40L0 [(0,.aD c.s 0),(1,wE ll),(2,wE dl)] h=some (.exit 0,e',h'))∧St c S' h' ov'∧Fr c h ov h' ov'∧Fin (xy c.text c.most ll dl k S.at_ S.out) S'
 |0,S,h,ov,st,he,hk=>by have:=st.xY;omega
 | k + 1, S, h, ov, st, he, hk => by
   have gs:=st.gs
   obtain⟨h1,S1,z,s1,s2,s3,s4⟩:=FI ll hll st he
   rw[xy]
   cases hz:xX c.text ll 15 1 0 S.at_ with
   | none =>
     rw[hz]at s4
     obtain⟨s4,s5⟩:=s4
     subst s5
     refine⟨[(0,.aD c.s 0),(1,wE ll),(2,wE dl),(6,I 256),(26,.bool true)],h1,ov,S1,.inl (uh ?_),s2,s3,s4,by decide⟩
     simp only[I]at *
     simp only[AP.f40L0,go_sem,gs,he,s1]
   | some zp =>
     obtain⟨z2,p1⟩:=zp
     rw[hz]at s4
     obtain⟨s4,s5⟩:=s4
     subst s5 s4
     have zb:=yf hz
     obtain⟨y,hy⟩:∃n:Nat,z=n:=XT zb.1
     subst hy
     dsimp only
     by_cases c1:(y:Int)<256
     · rw[if_pos c1]
       have w1:IntKind.wrap .u8 (y:Int)=y:=wrap_u8 (by omega)
       obtain⟨h2,ov2,p1',p2',p3'⟩:=NO s2 (b:=y)
       have step:aL (aR AP.A) bq AP.f40L0 (ay [(0,.aD c.s 0),(1,wE ll),(2,wE dl)] [0,1,2]) h=some (.normal,[(0,.aD c.s 0),(1,wE ll),(2,wE dl)],h2):=by
        simp only[I]at *
        simp only[AP.f40L0,go_sem,gs,he,s1,XS c1,w1,p1']
       by_cases hm:c.most≤S.out.length
       · rw[if_pos hm]
         have hl:=DN (c:=c) (S:={S with at_:=p1}) y he hm
         obtain⟨e',q⟩:=EM p2' (wE ll) (wE dl) (by rw[hl];decide)
         exact⟨e',h2,ov2,_,.inr (tN step q),p2',s3.trans p3',hl,by decide⟩
       · rw[if_neg hm]
         rw[HP (S:={S with at_:=p1}) _ he hm]at p2'
         obtain⟨e',h',ov',S',q1,q2,q3,q4⟩:=Cf ll dl hll hdl k _ h2 ov2 p2' rfl (by dsimp only;omega)
         refine⟨e',h',ov',S', ?_,q2,(s3.trans p3').trans q3,q4⟩
         rcases q1 with q1|q1
         · exact .inl (tN step q1)
         · exact .inr (tN step q1)
     · rw [if_neg c1]
       by_cases c2:(y:Int)=256
       · rw[if_pos c2]
         refine⟨[(0,.aD c.s 0),(1,wE ll),(2,wE dl),(6,I y),(26,.bool true)],h1,ov,_,.inl (uh ?_),s2,s3, ?_⟩
         · have c2':=uI c2
           simp only[I]at *
           simp only[AP.f40L0,go_sem,gs,he,s1,XP c1,c2']
         · simp only[Fin];rw[he]
       · rw[if_neg c2]
         have c2':=uH c2
         obtain⟨h2,ov2,S2,r1,r2,r3,r4⟩:=MW dl hdl s2 he y (by omega)
         have step:aL (aR AP.A) bq AP.f40L0 (ay [(0,.aD c.s 0),(1,wE ll),(2,wE dl)] [0,1,2]) h=some (.normal,[(0,.aD c.s 0),(1,wE ll),(2,wE dl)],h2):=by
          simp only[I]at *
          simp only[AP.f40L0,go_sem,gs,he,s1,XP c1,c2',r1]
         dsimp only at r4
         rw[Yo]
         cases hc:yW c.text c.most dl y p1 S.out with
         | error q =>
           rw[hc]at r4
           obtain⟨e',q'⟩:=EM r2 (wE ll) (wE dl) (by rw[r4.1];exact r4.2)
           exact⟨e',h2,ov2,S2,.inr (tN step q'),r2,s3.trans r3,r4⟩
         | ok q =>
           obtain⟨p2,o⟩:=q
           rw[hc]at r4
           simp only[Fin]at r4
           subst r4
           have hge:=EP hc
           obtain⟨e',h',ov',S',q1,q2,q3,q4⟩:=Cf ll dl hll hdl k _ h2 ov2 r2 rfl (by dsimp only;omega)
           refine⟨e',h',ov',S', ?_,q2,(s3.trans r3).trans q3,q4⟩
           rcases q1 with q1|q1
           · exact .inl (tN step q1)
           · exact .inr (tN step q1)
theorem KP {c:SC} {S:SS} {h:H} {ov:AV} (ll dl:List Int) (hll:ll.length<100000) (hdl:dl.length<100000) (st:St c S h ov) (he:S.e=0):
 ∃h' ov' S',aR AP.A 40 [.aD c.s 0,wE ll,wE dl] h=some (.bM [],h')∧St c S' h' ov'∧Fr c h ov h' ov'∧Fin (xy c.text c.most ll dl (8* c.text.size+1) S.at_ S.out) S':=by
 obtain⟨e',h',ov',S',q1,q2,q3,q4⟩:=Cf ll dl hll hdl (8* c.text.size+1) S h ov st he (by omega)
 refine⟨h',ov',S', ?_,q2,q3,q4⟩
 rcases q1 with q1|q1
 · refine tZ (fn:=AP.f40) (e:=e') (vs:=[]) rfl rfl rfl ?_ rfl
   simp only[AP.f40,go_sem,sG,q1]
 · refine wF (fn:=AP.f40) (e:=[]) (vs:=[]) rfl rfl rfl ?_ rfl
   simp only[AP.f40,go_sem,sG,q1]
theorem vX (h:H):∀id c,h.get id=some c→h.dN.get id=some c:=fun _ _ q=>q
def E4 (P:AV→Bool):List AV→Nat→Int
 |[],_=> -1
 |v::r,i=>if P v then(i:Int)else E4 P r (i+1)
theorem IQ (P:AV→Bool):∀(l:List AV) (i:Nat),(0≤E4 P l i)↔l.any P=true
 |[],i=>by simp [E4]
 | v :: r, i => by
   rw[E4]
   by_cases h:P v
   · rw[if_pos h];simp [h]
   · rw[if_neg h,IQ P r];simp [h]
theorem E8 {x fv : AV} {cs : List AV} (P : AV → Bool) (hP : ∀ v ∈ cs, ∀ g : H, kD (aR AP.A) [v] g fv = some (.bool (P v), g)) (hl : cs.length < 1000000000) (h : H) (rd : Rd h x cs) :
 ∀ (m i : Nat), m + i = cs.length → (∃ e', Lp AP.A [0, 1, 7, 8] AP.f84L0 [(0, x), (1, fv), (7, I cs.length), (8, I i)] h = some (.exit 0, e', h) ∧ E4 P (cs.drop i) i = -1) ∨
   ∃e',Lp AP.A [0,1,7,8] AP.f84L0 [(0,x),(1,fv),(7,I cs.length),(8,I i)] h=some (.ret,e',h)∧look e' 4=I (E4 P (cs.drop i) i)
 | 0, i, hm => by
   left
   refine⟨[(0,x),(1,fv),(7,I cs.length),(8,I i),(9,.bool false)],tM ?_,by rw[List.drop_eq_nil_of_le (by omega)];rfl⟩
   have c1:¬(i:Int)<(cs.length:Int):=by omega
   simp only[I]at *
   simp only[AP.f84L0,go_sem,XP c1]
 | m + 1, i, hm => by
   have hi:i<cs.length:=by omega
   obtain⟨v,hv⟩:∃v,cs[i]?=some v:=⟨_,XQ hi⟩
   have hd:cs.drop i=v::cs.drop (i+1):=by
    rw[List.drop_eq_getElem_cons hi];rw[XQ hi]at hv;rw[u6 hv]
   obtain⟨p,p1,p2⟩:=rd.elem hv
   have p3:=p2 h (fun _ _ q=>q)
   have c1:(i:Int)<(cs.length:Int):=by omega
   have hPv:=hP v (vq hv) h
   have w1:IntKind.wrap .i64 ((i:Int)+1)=((i+1:Nat):Int):=vL (n:=i+1) (by omega)
   rw[hd,E4]
   cases hb:P v with
   | true =>
     right
     rw[hb]at hPv
     rw[if_pos rfl]
     refine⟨[(4,I i)],uh ?_,rfl⟩
     simp only[I]at *
     simp only[AP.f84L0,go_sem,XS c1,p1,p3,hPv]
   | false =>
     rw[hb]at hPv
     have step:aL (aR AP.A) bq AP.f84L0 (ay [(0,x),(1,fv),(7,I cs.length),(8,I i)] [0,1,7,8]) h=some (.normal,[(0,x),(1,fv),(7,I cs.length),(8,I (i+1:Nat))],h):=by
      simp only[I]at *
      simp only[AP.f84L0,go_sem,XS c1,p1,p3,hPv,w1]
     rw[if_neg (by decide)]
     rcases E8 P hP hl h rd m (i+1) (by omega)with ⟨e',q1,q2⟩|⟨e',q1,q2⟩
     · exact .inl ⟨e',tN step q1,q2⟩
     · exact .inr ⟨e',tN step q1,q2⟩
theorem OT {x fv:AV} {cs:List AV} (P:AV→Bool) (hP:∀v∈cs,∀g:H,kD (aR AP.A) [v] g fv=some (.bool (P v),g)) (hl:cs.length<1000000000) (h:H) (rd:Rd h x cs):
 aR AP.A 84 [x,fv] h=some (I (E4 P cs 0),h):=by
 have rd':=rd.mono (vX h)
 have ln:=rd.len
 rcases E8 P hP hl h.dN rd' cs.length 0 (by omega)with ⟨e',q1,q2⟩|⟨e',q1,q2⟩
 · rw[X9]at q2
   rw[q2]
   refine uz (fn:=AP.f84) (h2:=h.dN) (e:=[(4,I (-1))]) rfl rfl rfl ?_ rfl rfl
   have q1':Lp AP.A [0,1,7,8] AP.f84L0 [(0,x),(1,fv),(7,I cs.length),(8,I 0)] h.dN=some (.exit 0,e',h.dN):=q1
   clear q1
   simp only[I]at *
   simp only[AP.f84,go_sem,sG,ln,q1']
 · rw[X9]at q2
   refine uz (fn:=AP.f84) (h2:=h.dN) (e:=e') (vs:=[I (E4 P cs 0)]) rfl rfl rfl ?_ (by simp only[AP.f84,cw,nC,q2];rfl) rfl
   have q1':Lp AP.A [0,1,7,8] AP.f84L0 [(0,x),(1,fv),(7,I cs.length),(8,I 0)] h.dN=some (.ret,e',h.dN):=q1
   clear q1
   simp only[I]at *
   simp only[AP.f84,go_sem,sG,ln,q1']
theorem EO {x fv:AV} {cs:List AV} (P:AV→Bool) (hP:∀v∈cs,∀g:H,kD (aR AP.A) [v] g fv=some (.bool (P v),g)) (hl:cs.length<1000000000) (h:H) (rd:Rd h x cs):
 aR AP.A 83 [x,fv] h=some (.bool (cs.any P),h):=by
 have k1:=OT P hP hl h.dN (rd.mono (vX h))
 have ha:=IQ P cs 0
 refine uz (fn:=AP.f83) (h2:=h.dN) (e:=[(4,.bool (cs.any P))]) rfl rfl rfl ?_ rfl rfl
 cases hb:cs.any P with
 | true =>
   have c1:0≤E4 P cs 0:=ha.2 hb
   simp only[I]at *
   simp only[AP.f83,go_sem,k1,XS c1]
 | false =>
   have c1:¬0≤E4 P cs 0:=by rw[ha,hb];decide
   simp only[I]at *
   simp only[AP.f83,go_sem,k1,XP c1]
def Bg (v:AV):Bool:=match v with| .int _ n=>decide (n<0)||decide (15<n)|_=>true
theorem So (n:Int) (h:H):aR AP.A 82 [I n] h=some (.bool (Bg (I n)),h):=by
 by_cases c1:n<0
 · refine uz (fn:=AP.f82) (h2:=h.dN) (e:=[(2,.bool true)]) rfl rfl rfl ?_ rfl ?_
   · simp only[I]at *
     simp only[AP.f82,go_sem,XS c1]
   · simp [Bg,I,c1];rfl
 · refine uz (fn:=AP.f82) (h2:=h.dN) (e:=[(2,.bool (decide (15<n)))]) rfl rfl rfl ?_ rfl ?_
   · simp only[I]at *
     simp only[AP.f82,go_sem,XP c1]
   · simp [Bg,I,c1];rfl
def AL (l:List Int):Bool:=decide (1≤l.length)&&decide (l.length≤288)&& !((ints l).any Bg)
theorem Pm (h:H) (x:AV) (l:List Int) (hl:l.length<100000) (rd:Rd h x (ints l)):aR AP.A 81 [x] h=some (.bool (AL l),h):=by
 have hP:∀v∈ints l,∀g:H,kD (aR AP.A) [v] g (.fn 82 [] [])=some (.bool (Bg v),g):=by
  intro v hv g
  obtain⟨n,_,rfl⟩:=X1.1 hv
  rw[nV];exact So n g
 have k1:=EO Bg hP (by simp;omega) h.dN (rd.mono (vX h))
 have ln:=rd.len
 rw[pY]at ln
 refine uz (fn:=AP.f81) (h2:=h.dN) (e:=[(2,.bool (AL l))]) rfl rfl rfl ?_ rfl rfl
 unfold AL
 by_cases c1:1≤l.length
 · have c1':(1:Int)≤(l.length:Int):=by omega
   by_cases c2:l.length≤288
   · have c2':(l.length:Int)≤288:=by omega
     simp only[I]at *
     simp only[AP.f81,go_sem,ln,XS c1',XS c2',XS c1,XS c2,k1,Bool.true_and]
   · have c2':¬(l.length:Int)≤288:=by omega
     simp only[I]at *
     simp only[AP.f81,go_sem,ln,XS c1',XP c2',XS c1,XP c2,Bool.true_and,Bool.false_and]
 · have c1':¬(1:Int)≤(l.length:Int):=by omega
   simp only[I]at *
   simp only[AP.f81,go_sem,ln,XP c1',XP c1,Bool.false_and]
def we (l:List Int):Int:=if AL l=false then 300 else if wh l 15<0 then 301 else if 0<wh l 15 then 302 else 0
theorem AM {l:List Int} (h:AL l=true):∀y∈l,0≤y∧y<16:=by
 intro y hy
 simp only[AL,vn,Bool.not_eq_true',List.any_eq_false]at h
 have:=h.2 (I y) (X1.2 ⟨y,hy,rfl⟩)
 simp [Bg,I]at this
 omega
theorem Hp (h : H) (x : AV) (l : List Int) (hl : l.length < 100000) (rd : Rd h x (ints l)) : aR AP.A 65 [x] h = some (I (we l), h) := by
 have rd':=rd.mono (vX h)
 have k1:=Pm h.dN x l hl rd'
 unfold we
 by_cases hm:AL l=true
 · have k2:=BD h.dN x l hl (AM hm) rd'
   have hb:wE l=.aK (nK 49 (xZ l)) 0:=rfl
   have g:(nK 49 (xZ l))[48]?=some (I (wh l 15)):=by rw[fK (by omega)];rfl
   rw[hb]at k2
   clear hb
   generalize nK 49 (xZ l)=T at k2 g
   rw[hm]at k1 ⊢
   rw[if_neg (by decide)]
   by_cases c1:wh l 15<0
   · rw[if_pos c1]
     refine uz (fn:=AP.f65) (h2:=h.dN) (e:=[(2,I 301)]) rfl rfl rfl ?_ rfl rfl
     simp only[I]at *
     simp only[AP.f65,go_sem,k1,k2,g,XS c1]
   · rw[if_neg c1]
     by_cases c2:0<wh l 15
     · rw[if_pos c2]
       refine uz (fn:=AP.f65) (h2:=h.dN) (e:=[(2,I 302)]) rfl rfl rfl ?_ rfl rfl
       simp only[I]at *
       simp only[AP.f65,go_sem,k1,k2,g,XP c1,XS c2]
     · rw[if_neg c2]
       refine uz (fn:=AP.f65) (h2:=h.dN) (e:=[(2,I 0)]) rfl rfl rfl ?_ rfl rfl
       simp only[I]at *
       simp only[AP.f65,go_sem,k1,k2,g,XP c1,XP c2]
 · have hm':AL l=false:=by simpa using hm
   rw[hm']at k1 ⊢
   rw[if_pos rfl]
   refine uz (fn:=AP.f65) (h2:=h.dN) (e:=[(2,I 300)]) rfl rfl rfl ?_ rfl rfl
   simp only[I]at *
   simp only[AP.f65,go_sem,k1]
def HX:List Int→Int→Int
 |[],s=>s
 |x::r,s=>HX r (s+x)
theorem Ee {x:AV} {l:List Int} (hl:l.length<100000) (hr:∀y∈l,0≤y∧y<16) (h:H) (rd:Rd h x (ints l)):
 ∀(q p:List Int) (s:Int),l=p++q→0≤s→s≤16* p.length→∃e',Lp AP.A [3,6,7,8] AP.f66L0 [(3,I s),(6,x),(7,I l.length),(8,I p.length)] h=some (.exit 0,e',h)∧look e' 3=I (HX q s)
 | [], p, s, hpq, hs0, hs1 => by
   refine⟨[(3,I s),(6,x),(7,I l.length),(8,I p.length),(9,.bool false)],tM ?_,rfl⟩
   have c1:¬(p.length:Int)<(l.length:Int):=by rw[hpq];simp
   simp only[I]at *
   simp only[AP.f66L0,go_sem,XP c1]
 | y :: q, p, s, hpq, hs0, hs1 => by
   have hlen:l.length=p.length+(q.length+1):=by rw[hpq];simp
   have c1:(p.length:Int)<(l.length:Int):=by omega
   have hy:=hr y (by rw[hpq];simp)
   have hv:(ints l)[p.length]?=some (I y):=tu (by rw[hpq];simp)
   obtain⟨a,p1,p2⟩:=rd.elem hv
   have p3:=p2 h (fun _ _ q=>q)
   have w1:IntKind.wrap .i64 (s+y)=s+y:=ud (by omega) (by omega)
   have w2:IntKind.wrap .i64 ((p.length:Int)+1)=(((p++[y]).length:Nat):Int):=by
    rw[vI];exact vL (n:=p.length+1) (by omega)
   have step:aL (aR AP.A) bq AP.f66L0 (ay [(3,I s),(6,x),(7,I l.length),(8,I p.length)] [3,6,7,8]) h=some (.normal,[(3,I (s+y)),(6,x),(7,I l.length),(8,I (p++[y]).length)],h):=by
    simp only[I]at *
    simp only[AP.f66L0,sX,qM,qJ,qL,qK,o0,tE,tD,sY,sZ,td,tc,sU,sW,sS,sR,sK,sN,r9,se,qh,nL,mX,nf,ly,sI,sH,pf,pg,tG,rH,tB,qY,oT,oO,Nat.reduceEqDiff,ne_eq,not_false_eq_true,mg,lW,XS c1,p1,p3,w1,w2]
   obtain⟨e',q1,q2⟩:=Ee hl hr h rd q (p++[y]) (s+y) (by rw[hpq];simp) (by omega) (by simp;omega)
   exact⟨e',tN step q1,q2⟩
def xL (l:List Int):Bool:=decide (HX l 0≤1)
theorem NZ (h:H) (x:AV) (l:List Int) (hl:l.length<100000) (hr:∀y∈l,0≤y∧y<16) (rd:Rd h x (ints l)):aR AP.A 66 [x] h=some (.bool (xL l),h):=by
 have rd':=rd.mono (vX h)
 have ln:=rd.len
 rw[pY]at ln
 obtain⟨e',q1,q2⟩:=Ee hl hr h.dN rd' l [] 0 rfl (by omega) (by simp)
 have q1':Lp AP.A [3,6,7,8] AP.f66L0 [(3,I 0),(6,x),(7,I l.length),(8,I 0)] h.dN=some (.exit 0,e',h.dN):=q1
 clear q1
 refine uz (fn:=AP.f66) (h2:=h.dN) (e:=[(2,.bool (xL l))]) rfl rfl rfl ?_ rfl rfl
 simp only[I,xL]at *
 simp only[AP.f66,go_sem,sG,ln,q1',q2]
theorem FU {n:Nat} (h:n<18446744073709551616):IntKind.wrap .u64 (n:Int)=n:=by
 have e:IntKind.wrap .u64 (n:Int)=(n:Int)%18446744073709551616:=by simp [IntKind.wrap,IntKind.bits,IntKind.signed]
 rw[e];omega
theorem EC {a:Nat} (ha:a<4294967296):bits .and .u64 (a:Int) 4294967295=(a:Int):=by
 show IntKind.wrap .u64 (((BitVec.ofInt 64 (a:Int)&&&BitVec.ofInt 64 ((4294967295:Nat):Int)).toNat:Nat):Int)=_
 rw[BitVec.toNat_and,ze 64 a (by omega),ze 64 4294967295 (by omega)]
 rw[show 4294967295=2^32-1 from rfl,Nat.and_two_pow_sub_one_eq_mod,Nat.mod_eq_of_lt (by simpa using ha)]
 exact FU (by omega)
theorem Lm {a:Nat} (ha:a<4294967296):pF .shr .u64 (a:Int) 32=some (.int .u64 0):=by
 have:(a:Int).fdiv 4294967296=0:=by rw[Int.fdiv_eq_ediv_of_nonneg _ (by omega)];omega
 simp [pF,IntKind.bits,this]
theorem OW (h:H) (a b:Nat) (ha:a<4294967296) (hb:b<4294967296) (hab:a* b<4294967296):aR AP.A 78 [.int .u64 a,.int .u64 b] h=some (.bM [.int .u64 0,.int .u64 (a* b:Nat)],h):=by
 have a1:=EC ha
 have a2:=EC hb
 have s1:=Lm ha
 have s2:=Lm hb
 have s3:=Lm hab
 have w1:IntKind.wrap .u64 ((a:Int)* b)=((a* b:Nat):Int):=by rw[show(a:Int)* b=((a* b:Nat):Int)by simp];exact FU (by omega)
 have w0:IntKind.wrap .u64 0=0:=by decide
 have z1:(0:Int)* b=0:=by omega
 have z2:(a:Int)* 0=0:=by omega
 have s0:pF .shr .u64 0 32=some (.int .u64 0):=Lm (a:=0) (by omega)
 have a0:bits .and .u64 0 4294967295=0:=EC (a:=0) (by omega)
 refine uz (fn:=AP.f78) (h2:=h.dN) (e:=[(4,.int .u64 0),(5,.int .u64 (a* b:Nat))]) rfl rfl rfl ?_ rfl rfl
 simp only[AP.f78,go_sem,a1,a2,s1,s2,s3,w1,w0,z1,z2,s0,a0,Int.zero_mul,Int.add_zero]
theorem Vo (h:H) (a b:Nat) (ha:a<4294967296) (hb:b<4294967296) (hab:a* b<4294967296):aR AP.A 63 [.int .u64 a,.int .u64 b] h=some (.bM [.int .u64 0,.int .u64 (a* b:Nat)],h):=by
 have k:=OW h.dN a b ha hb hab
 refine uz (fn:=AP.f63) (h2:=h.dN) (e:=[(4,.int .u64 0),(5,.int .u64 (a* b:Nat))]) rfl rfl rfl ?_ rfl rfl
 simp only[AP.f63,go_sem,k]
theorem Av:∀(B V A C:List AV),V.length=B.length→setFrom (A++(B++C)) A.length V=A++(V++C)
 |[],[],A,C,_=>rfl
 | b :: B, v :: V, A, C, h => by
   rw[pE]
   have h1:(A++(b::B++C)).set A.length v=(A++[v])++(B++C):=by
    rw[Yn _ _ (vm _)];simp
   rw[h1]
   have h2:=Av B V (A++[v]) C (by simpa using h)
   rw[vI]at h2
   rw[show A.length+1=A.length+[v].length by rfl,h2];simp
 |[],v::V,A,C,h=>by simp at h
 |b::B,[],A,C,h=>by simp at h
theorem LK (n:Nat) {v:AV} (hv:v.sc=true):AV.aC (List.replicate n v)=true:=by
 induction n with
 |zero=>rfl
 |succ n ih=>rw[List.replicate_succ,qn,hv,ih];rfl
theorem HR (v:AV):∀n,dG n [v]=List.replicate n v
 |0=>rfl
 |n+1=>by rw[dG,HR v n];rfl
theorem NT {k y:Nat} (h:k≤y):j9 (I k) y=some k:=by
 simp [j9,nR,I];omega
theorem JV {h:H} {id N k:Nat} {cs:List AV} (hg:h.get id=some cs) (hN:cs.length=N) (hk:k≤N):sx h 1 (.aE id 0 N 1) (some (I k)) none none=some (.aE id k (N-k) 1):=by
 simp [sx,hg,hN,aB,NT hk]
theorem Hl {h:H} {id N M k:Nat} {cs:List AV} (hg:h.get id=some cs) (hN:cs.length=N) (hM:M≤N) (hk:k≤N):sx h 1 (.aE id 0 M 1) none (some (I k)) none=some (.aE id 0 k 1):=by
 have:j9 (I k) N=some k:=NT hk
 simp [sx,hg,hN,aB,this,hM]
def Bc (v:AV) (k N:Nat):List AV:=List.replicate k v++List.replicate (N-k) (I 0)
theorem NQ {v:AV} {k N:Nat} (h:k≤N):(Bc v k N).length=N:=by simp [Bc];omega
theorem Jx {v:AV} {k N m:Nat} (h:k+m≤N):setFrom (Bc v k N) k (List.replicate m v)=Bc v (k+m) N:=by
 have e:List.replicate (N-k) (I 0)=List.replicate m (I 0)++List.replicate (N-(k+m)) (I 0):=by
  rw[List.replicate_append_replicate];congr 1;omega
 have:=Av (List.replicate m (I 0)) (List.replicate m v) (List.replicate k v) (List.replicate (N-(k+m)) (I 0)) (by simp)
 rw[X3]at this
 rw[Bc,e,this,Bc,←XV,List.replicate_append_replicate]
theorem Ed (v : AV) (hv : v.sc = true) (N id : Nat) (hN : N < 1000000000) : ∀ (f k : Nat) (h : H), N - k ≤ f → 0 < k → k ≤ N → h.get id = some (Bc v k N) → h.floor ≤ id →
 ∃e' h',Lp AP.A [7,8] AP.f43L0 [(7,.aE id 0 N 1),(8,I k)] h=some (.exit 0,e',h')∧look e' 7=.aE id 0 N 1∧h'.get id=some (Bc v N N)∧h'.next=h.next
 | f, k, h, hf, hk, hkN, hg, hfl => by
   by_cases hlt:k<N
   · have c1:(k:Int)<(N:Int):=by omega
     have hlen:=NQ (v:=v) hkN
     have s1:=JV hg hlen hkN
     have s2:=Hl hg hlen (vm N) hkN
     obtain⟨m,hm⟩:∃m,m=Nat.min k (N-k):=⟨_,rfl⟩
     have hm1:0<m∧m≤k∧k+m≤N:=by
      rw[hm];have:Nat.min k (N-k)=min k (N-k):=rfl
      rw[this];omega
     have hsrc:aS h 1 (.aE id 0 k 1)=some (k,List.replicate k v):=by
      simp only[aS,if_true,hg,vi]
      rw[if_pos (by rw[hlen];omega)]
      simp [Bc]
     have cp:g9 h 1 (.aE id k (N-k) 1) (.aE id 0 k 1)=some (I m,h.set id (Bc v (k+m) N)):=by
      unfold g9
      rw[hsrc,vi]
      simp only[LK k hv,hfl,and_self,true_and,if_true,hg,vi,hlen]
      rw[if_pos (by omega),←hm,Yy,List.take_replicate,Nat.min_eq_left hm1.2.1,Jx hm1.2.2];rfl
     have w1:IntKind.wrap .i64 ((k:Int)+m)=((k+m:Nat):Int):=by rw[show(k:Int)+m=((k+m:Nat):Int)by omega];exact vL (by omega)
     have al:jc false (.aE id 0 N 1)=some (I N):=rfl
     have step:aL (aR AP.A) bq AP.f43L0 (ay [(7,.aE id 0 N 1),(8,I k)] [7,8]) h=some (.normal,[(7,.aE id 0 N 1),(8,I (k+m:Nat))],h.set id (Bc v (k+m) N)):=by
      simp only[I]at *
      simp only[AP.f43L0,go_sem,al,XS c1,XU,Yf,s1,s2,cp,w1]
     match f,hf with
     |0,hf=>omega
     | f + 1, hf =>
       obtain⟨e',h',q1,q2,q3,q4⟩:=Ed v hv N id hN f (k+m) (h.set id (Bc v (k+m) N)) (by omega) (by omega) (by omega) (by rw[H.dp,if_pos rfl,hg];rfl) (by simpa using hfl)
       exact⟨e',h',tN step q1,q2,q3,by rw[q4];simp⟩
   · have hkN':k=N:=by omega
     subst hkN'
     have c1:¬(k:Int)<(k:Int):=by omega
     have al:jc false (.aE id 0 k 1)=some (I k):=rfl
     refine⟨[(7,.aE id 0 k 1),(8,I k),(37,.bool false)],h,tM ?_,rfl,hg,rfl⟩
     simp only[I]at *
     simp only[AP.f43L0,go_sem,al,XP c1]
theorem Ae (h : H) (x : AV) (y : Int) (N : Nat) (hN : N < 1000000000) (rd : Rd h x [I y]) : aR AP.A 43 [x, I N] h = some (.aV false (ints (List.replicate N y)) 0 N 1, h) := by
 have rd':=rd.mono (vX h)
 have ln:=rd.len
 have mc:=Vo h.dN 1 N (by omega) (by omega) (by omega)
 rw[Nat.one_mul]at mc
 have mc':aR AP.A 63 [.int .u64 1,.int .u64 N] h.dN=some (.bM [.int .u64 0,.int .u64 N],h.dN):=mc
 clear mc
 have c0:¬(N:Int)<0:=by omega
 have w1:IntKind.wrap .u64 1=1:=by decide
 have w2:IntKind.wrap .u64 (N:Int)=N:=FU (by omega)
 have w3:IntKind.wrap .i64 (N:Int)=N:=vL (by omega)
 have c1:¬(0:Int)<0:=by omega
 have c2:¬(9223372036854775807:Int)<(N:Int):=by omega
 obtain⟨id,hid⟩:∃i,i=h.next:=⟨_,rfl⟩
 obtain⟨g1,hg1⟩:∃g,g=h.dN.alloc (List.replicate N (I 0)):=⟨_,rfl⟩
 have e1:g1.get id=some (List.replicate N (I 0)):=by rw[hg1,H.aW,if_pos (by rw[hid];rfl)]
 have bt:aY [(29,I N),(28,.int .u64 N),(0,x),(6,.int .u64 N)] (.iR 1 8 [I 0] (.t 29) (.t 29))=some (List.replicate N (I 0),fun i=>.aE i 0 N 1):=by
  have c3:(8:Int)* N≤281474976710656:=by omega
  have c4:(N:Int)≤9223372036854775807:=by omega
  simp [aY,I,HR,c3,c4]
 have hcp : ∃ (k : Nat) (h2 : H), g9 g1 1 (.aE id 0 N 1) x = some (I k, h2) ∧ ((k = 0 ∧ N = 0) ∨ (k = 1 ∧ 0 < N)) ∧ h2.get id = some (Bc (I y) k N) ∧ h2.floor = h.next ∧ h2.next = g1.next := by
  have rd2:aS g1 1 x=some (1,[I y]):=(rd.mono (fun i c q=>by rw[hg1,H.aW,if_neg (by have:=h.lt _ _ q;show i≠h.next;omega)];exact q)).1
  refine⟨Nat.min 1 N,g1.set id (Bc (I y) (Nat.min 1 N) N), ?_, ?_,by rw[H.dp,if_pos rfl,e1];rfl,by rw[hg1];simp,by simp⟩
  · unfold g9
    rw[rd2,vi]
    have hf:g1.floor≤id:=by rw[hg1,hid];simp
    have ha:AV.aC [I y]=true:=rfl
    simp only[ha,hf,and_self,true_and,if_true,e1,vi,X3]
    rw[if_pos (by omega),Yy]
    have hz:List.replicate N (I 0)=Bc (I y) 0 N:=by simp [Bc]
    rw[hz]
    have ht:[I y].take (Nat.min 1 N)=List.replicate (Nat.min 1 N) (I y):=by
     cases N with
     |zero=>rfl
     | succ n => have : Nat.min 1 (n + 1) = 1 := by show min 1 (n + 1) = 1; omega
                 rw[this];rfl
    rw[ht,Jx (by show 0+min 1 N≤N;omega),vr];rfl
  · cases N with
    |zero=>left;exact⟨rfl,rfl⟩
    |succ n=>right;exact⟨by show min 1 (n+1)=1;omega,by omega⟩
 obtain⟨k,h2,cp1,cp2,cp3,cp4,cp5⟩:=hcp
 have lp:∃e' h3,Lp AP.A [7,8] AP.f43L0 [(7,.aE id 0 N 1),(8,I k)] h2=some (.exit 0,e',h3)∧look e' 7=.aE id 0 N 1∧h3.get id=some (Bc (I y) N N):=by
  rcases cp2 with ⟨rfl,rfl⟩|⟨rfl,hN0⟩
  · refine⟨[(7,.aE id 0 0 1),(8,I 0),(37,.bool false)],h2,tM ?_,rfl,cp3⟩
    have al:jc false (.aE id 0 0 1)=some (I 0):=rfl
    simp only[I]at *
    simp only[AP.f43L0,go_sem,al,Int.natCast_zero]
  · obtain⟨e',h',q1,q2,q3,_⟩:=Ed (I y) rfl N id hN N 1 h2 (by omega) (by omega) (by omega) cp3 (by rw[cp4,hid];exact vm _)
    exact⟨e',h',q1,q2,q3⟩
 obtain⟨e',h3,q1,q2,q3⟩:=lp
 refine uz (fn:=AP.f43) (h2:=h3) (e:=[(4,.aE id 0 N 1)]) (vs:=[.aE id 0 N 1]) rfl rfl rfl ?_ rfl ?_
 · have al:jc false x=some (I 1):=ln
   have hn:h.dN.next=id:=by rw[hid];rfl
   simp only[I]at *
   simp only[AP.f43,go_sem,al,XP c0,w1,w2,w3,mc',XP c1,XP c2,bt,←hg1,hn,cp1,sG,q1,q2]
 · have hr:Bc (I y) N N=ints (List.replicate N y):=by simp [Bc,ints]
   show snap h3.get h.next 16 true (.aE id 0 N 1)=_
   unfold snap
   rw[if_neg (by omega),q3,vi,hr,if_pos (by simp)]
   have ht:((ints (List.replicate N y)).drop 0).take (N* 1)=ints (List.replicate N y):=by
    rw[X9,Yy,vD (by simp)]
   rw[ht,yA];rfl
theorem RR (h:H) (N:Nat) (hN0:0<N) (hN:N<1000000000):aR AP.A 76 [.aP,I N] h=some (.aE h.next 0 0 1,h.alloc (List.replicate N (I 0))):=by
 have c0:¬(N:Int)<0:=by omega
 have c1:(0:Int)<N:=by omega
 have w0:IntKind.wrap .i64 (0-0)=0:=by decide
 have w1:IntKind.wrap .i64 ((N:Int)-0)=N:=by rw[Int.sub_zero];exact vL (by omega)
 have a1:qi .aP=some (I 0):=rfl
 have a2:jc false .aP=some (I 0):=rfl
 have a3:sx h 1 .aP none (some (I 0)) none=some .aP:=rfl
 have a4:g8 h 1 8 [I 0] .aP (I N)=some (.aE h.next 0 N 1,h.alloc (List.replicate N (I 0))):=by
  have c3:(N:Int)≤281474976710656:=by omega
  have c4:(N:Int)* 8≤281474976710656:=by omega
  have c5:roomy 8 N=true:=by simp [roomy];omega
  simp [g8,I,c3,c4,c5,HR,hN0]
 have a5:sx (h.alloc (List.replicate N (I 0))) 1 (.aE h.next 0 N 1) none (some (I 0)) none=some (.aE h.next 0 0 1):=
  Hl (by rw[H.aW,if_pos rfl]) (by simp) (vm _) (Nat.zero_le _)
 refine tZ (fn:=AP.f76) (e:=[(4,.aE h.next 0 0 1)]) rfl rfl rfl ?_ rfl
 simp only[I]at *
 simp only[AP.f76,go_sem,XP c0,XS c1,w0,w1,a1,a2,XU,Yf,a3,a4,a5]
def cat (ps:List (AV×List Int)):List Int:=ps.flatMap (·.2)
theorem Iq (p:AV×List Int) (ps:List (AV×List Int)):cat (p::ps)=p.2++cat ps:=by simp [cat]
theorem CR {h:H} {x:AV} {all:List (AV×List Int)} (rd:Rd h x (all.map (·.1))) (hp:∀p∈all,Rd h p.1 (ints p.2)) (hT:(cat all).length<1000000000) (hA:all.length<1000000000):
 ∀(ps qs:List (AV×List Int)),all=qs++ps→
 ∃e',Lp AP.A [0,3,9,10,11] AP.f62L1 [(0,x),(3,I (cat qs).length),(9,x),(10,I all.length),(11,I qs.length)] h=some (.exit 0,e',h)∧look e' 0=x∧look e' 3=I (cat all).length
 | [], qs, hq => by
   rw[XZ]at hq;subst hq
   refine⟨[(0,x),(3,I (cat all).length),(9,x),(10,I all.length),(11,I all.length),(12,.bool false)],tM ?_,rfl,rfl⟩
   have c1:¬(all.length:Int)<(all.length:Int):=by omega
   simp only[I]at *
   simp only[AP.f62L1,go_sem,XP c1]
 | p :: ps, qs, hq => by
   have hlen:all.length=qs.length+(ps.length+1):=by rw[hq];simp
   have hct:(cat all).length=(cat qs).length+(p.2.length+(cat ps).length):=by rw[hq];simp [cat]
   have c1:(qs.length:Int)<(all.length:Int):=by omega
   have hv:(all.map (·.1))[qs.length]?=some p.1:=by rw[hq];simp
   obtain⟨a,p1,p2⟩:=rd.elem hv
   have p3:=p2 h (fun _ _ q=>q)
   have ln:=(hp p (by rw[hq];simp)).len
   rw[pY]at ln
   have w1:IntKind.wrap .i64 (((cat qs).length:Int)+p.2.length)=((cat (qs++[p])).length:Int):=by
    rw[show((cat qs).length:Int)+p.2.length=((cat (qs++[p])).length:Int)by simp [cat]];exact vL (by simp [cat]at *;omega)
   have c2:¬((cat (qs++[p])).length:Int)<0:=by omega
   have w2:IntKind.wrap .i64 ((qs.length:Int)+1)=((qs++[p]).length:Int):=by
    rw[vI];exact vL (n:=qs.length+1) (by omega)
   obtain⟨e',q1,q2,q3⟩:=CR rd hp hT hA ps (qs++[p]) (by rw[hq];simp)
   have step:aL (aR AP.A) bq AP.f62L1 (ay [(0,x),(3,I (cat qs).length),(9,x),(10,I all.length),(11,I qs.length)] [0,3,9,10,11]) h=some (.normal,[(0,x),(3,I (cat (qs++[p])).length),(9,x),(10,I all.length),(11,I (qs++[p]).length)],h):=by
    generalize hB:(qs++[p]).length=B at *
    simp only[I]at *
    simp only[AP.f62L1,go_sem,XS c1,p1,p3,ln,w1,XP c2,w2]
   exact⟨e',tN step q1,q2,q3⟩
theorem CT {h0 : H} {x : AV} {all : List (AV × List Int)} (rd : Rd h0 x (all.map (·.1))) (hp : ∀ p ∈ all, Rd h0 p.1 (ints p.2)) (hT : (cat all).length < 1000000000) (hA : all.length < 1000000000) (id : Nat) (hid : h0.next ≤ id) :
 ∀(ps qs:List (AV×List Int)) (h:H),all=qs++ps→h.floor≤id→h.get id=some (ints (cat qs)++List.replicate (cat ps).length (I 0))→(∀i c,h0.get i=some c→h.get i=some c)→
 ∃e' h',Lp AP.A [6,25,26,27] AP.f62L0 [(6,.aE id 0 (cat qs).length 1),(25,x),(26,I all.length),(27,I qs.length)] h=some (.exit 2,e',h')∧look e' 6=.aE id 0 (cat all).length 1∧h'.get id=some (ints (cat all))
 | [], qs, h, hq, hf, hg, hm => by
   rw[XZ]at hq;subst hq
   refine⟨[(6,.aE id 0 (cat all).length 1),(25,x),(26,I all.length),(27,I all.length),(28,.bool false)],h,tM ?_,rfl,by rw[hg];simp [cat]⟩
   have c1:¬(all.length:Int)<(all.length:Int):=by omega
   simp only[I]at *
   simp only[AP.f62L0,go_sem,XP c1]
 | p :: ps, qs, h, hq, hf, hg, hm => by
   have hlen:all.length=qs.length+(ps.length+1):=by rw[hq];simp
   have hct:(cat all).length=(cat qs).length+(p.2.length+(cat ps).length):=by rw[hq];simp [cat]
   have hcq:(cat (qs++[p])).length=(cat qs).length+p.2.length:=by simp [cat]
   have c1:(qs.length:Int)<(all.length:Int):=by omega
   have hv:(all.map (·.1))[qs.length]?=some p.1:=by rw[hq];simp
   obtain⟨a,p1,p2⟩:=rd.elem hv
   have p3:=p2 h hm
   have src:=((hp p (by rw[hq];simp)).mono hm).1
   rw[pY]at src
   have w2:IntKind.wrap .i64 ((qs.length:Int)+1)=((qs++[p]).length:Int):=by
    rw[vI];exact vL (n:=qs.length+1) (by omega)
   have hz:List.replicate (cat (p::ps)).length (I 0)=List.replicate p.2.length (I 0)++List.replicate (cat ps).length (I 0):=by
    rw[List.replicate_append_replicate,Iq,vI]
   have hap:∃h1,kM h 1 8 (.aE id 0 (cat qs).length 1) p.1=some (.aE id 0 (cat (qs++[p])).length 1,h1)∧h1.floor=h.floor∧h1.get id=some (ints (cat (qs++[p]))++List.replicate (cat ps).length (I 0))∧∀i c,h0.get i=some c→h1.get i=some c:=by
    by_cases h0':p.2.length=0
    · have hp2:p.2=[]:=List.length_eq_zero_iff.1 h0'
      refine⟨h, ?_,rfl, ?_,hm⟩
      · unfold kM
        rw[src,vi]
        unfold dJ
        rw[if_pos (by simp [h0']),hcq,h0',Nat.add_zero]
      · rw[hg,Iq,hp2];simp [cat,hp2]
    · refine⟨h.set id (ints (cat (qs++[p]))++List.replicate (cat ps).length (I 0)), ?_,by simp,by rw[H.dp,if_pos rfl,hg];rfl,fun i c q=> ?_⟩
      · unfold kM
        rw[src,vi]
        have hs:setFrom (ints (cat qs)++List.replicate (cat (p::ps)).length (I 0)) (cat qs).length (ints p.2)=ints (cat (qs++[p]))++List.replicate (cat ps).length (I 0):=by
         have:=Av (List.replicate p.2.length (I 0)) (ints p.2) (ints (cat qs)) (List.replicate (cat ps).length (I 0)) (by simp)
         rw[pY]at this
         rw[hz,this];simp [cat,pX]
        unfold dJ
        dsimp only
        rw[if_neg h0',if_neg (by simp [jK])]
        rw[if_pos ⟨rfl,hf⟩,hg,vi,if_pos (by rw[hz];simp)]
        rw[Yy,vr,hs,hcq]
      · rw[H.dp,if_neg (by have:=h0.lt _ _ q;omega)];exact hm i c q
   obtain⟨h1,ap1,ap2,ap3,ap4⟩:=hap
   obtain⟨e',h',q1,q2,q3⟩:=CT rd hp hT hA id hid ps (qs++[p]) h1 (by rw[hq];simp) (by rw[ap2];exact hf) ap3 ap4
   have step:aL (aR AP.A) bq AP.f62L0 (ay [(6,.aE id 0 (cat qs).length 1),(25,x),(26,I all.length),(27,I qs.length)] [6,25,26,27]) h=some (.normal,[(6,.aE id 0 (cat (qs++[p])).length 1),(25,x),(26,I all.length),(27,I (qs++[p]).length)],h1):=by
    generalize hB:(qs++[p]).length=B at *
    simp only[I]at *
    simp only[AP.f62L0,go_sem,XS c1,p1,p3,ap1,w2]
   exact⟨e',h',tN step q1,q2,q3⟩
def wP (l:List Int):AV:=.aV false (ints l) 0 l.length 1
theorem yu (h:H) (l:List Int):Rd h (wP l) (ints l):=by
 refine⟨?_,by intro s e;cases e⟩
 simp [aS,wP,vD]
theorem EN (h:H) (x:AV) (ps:List (AV×List Int)) (rd:Rd h x (ps.map (·.1))) (hp:∀p∈ps,Rd h p.1 (ints p.2)) (hT:(cat ps).length<1000000000) (hA:ps.length<1000000000) (h0:0<(cat ps).length):aR AP.A 62 [x] h=some (wP (cat ps),h):=by
 have rd':=rd.mono (vX h)
 have hp':∀p∈ps,Rd h.dN p.1 (ints p.2):=fun p q=>(hp p q).mono (vX h)
 have ln:=rd.len
 rw[Yu]at ln
 obtain⟨e1,a1,a2,a3⟩:=CR rd' hp' hT hA ps [] rfl
 have a1':Lp AP.A [0,3,9,10,11] AP.f62L1 [(0,x),(3,I 0),(9,x),(10,I ps.length),(11,I 0)] h.dN=some (.exit 0,e1,h.dN):=a1
 clear a1
 have gc:=RR h.dN (cat ps).length h0 hT
 obtain⟨h1,hh1⟩:∃g,g=h.dN.alloc (List.replicate (cat ps).length (I 0)):=⟨_,rfl⟩
 rw[←hh1]at gc
 obtain⟨e2,h2,b1,b2,b3⟩:=CT rd' hp' hT hA h.next (vm _) ps [] h1 rfl (by rw[hh1];simp) (by rw[hh1,H.aW,if_pos (show h.next=h.dN.next from rfl)];rfl)
  (fun i c q=>by rw[hh1,H.aW,if_neg (by have:=h.dN.lt _ _ q;omega)];exact q)
 have b1':Lp AP.A [6,25,26,27] AP.f62L0 [(6,.aE h.next 0 0 1),(25,x),(26,I ps.length),(27,I 0)] h1=some (.exit 2,e2,h2):=b1
 clear b1
 have hn:h.dN.next=h.next:=rfl
 refine uz (fn:=AP.f62) (h2:=h2) (e:=[(2,.aE h.next 0 (cat ps).length 1)]) (vs:=[.aE h.next 0 (cat ps).length 1]) rfl rfl rfl ?_ rfl ?_
 · simp only[I]at *
   simp only[AP.f62,go_sem,ln,sG,a1',a2,a3,gc,hn,b1',b2]
 · show snap h2.get h.next 16 true (.aE h.next 0 (cat ps).length 1)=_
   unfold snap
   rw[if_neg (by omega),b3,vi,if_pos (by simp)]
   have ht:((ints (cat ps)).drop 0).take ((cat ps).length* 1)=ints (cat ps):=by
    rw[X9,Yy,vD (by simp)]
   rw[ht,yA];rfl
def wy:List Int:=List.replicate 144 8++(List.replicate 112 9++(List.replicate 24 7++List.replicate 8 8))
theorem Sr (e:Env) (n:Int):aY e (.cD 1 1 [.int .i64 0] [(0,.c (.int .i64 n))])=some ([I n],fun i=>.aE i 0 1 1):=rfl
theorem BW (h:H) (n:Int):Rd (h.alloc [I n]) (.aE h.next 0 1 1) [I n]:=by
 refine⟨?_,by intro s e;cases e⟩
 simp [aS,H.aW]
theorem K0 (h:H):aR AP.A 42 [] h=some (wP wy,h):=by
 have r1:=Ae (h.dN.alloc [I 8]) (.aE h.dN.next 0 1 1) 8 144 (by omega) (BW _ _)
 have r2:=Ae ((h.dN.alloc [I 8]).alloc [I 9]) (.aE (h.dN.alloc [I 8]).next 0 1 1) 9 112 (by omega) (BW _ _)
 have r3:=Ae (((h.dN.alloc [I 8]).alloc [I 9]).alloc [I 7]) (.aE ((h.dN.alloc [I 8]).alloc [I 9]).next 0 1 1) 7 24 (by omega) (BW _ _)
 have r4:=Ae ((((h.dN.alloc [I 8]).alloc [I 9]).alloc [I 7]).alloc [I 8]) (.aE (((h.dN.alloc [I 8]).alloc [I 9]).alloc [I 7]).next 0 1 1) 8 8 (by omega) (BW _ _)
 obtain⟨g4,hg4⟩:∃g,g=(((h.dN.alloc [I 8]).alloc [I 9]).alloc [I 7]).alloc [I 8]:=⟨_,rfl⟩
 obtain⟨v1,hv1⟩:∃v,v=AV.aV false (ints (List.replicate 144 8)) 0 144 1:=⟨_,rfl⟩
 obtain⟨v2,hv2⟩:∃v,v=AV.aV false (ints (List.replicate 112 9)) 0 112 1:=⟨_,rfl⟩
 obtain⟨v3,hv3⟩:∃v,v=AV.aV false (ints (List.replicate 24 7)) 0 24 1:=⟨_,rfl⟩
 obtain⟨v4,hv4⟩:∃v,v=AV.aV false (ints (List.replicate 8 8)) 0 8 1:=⟨_,rfl⟩
 have hc:cat [(v1,List.replicate 144 8),(v2,List.replicate 112 9),(v3,List.replicate 24 7),(v4,List.replicate 8 8)]=wy:=by
  simp only[cat,wy,XW,List.flatMap_nil,XZ]
 have hfl:wy.length=288:=by simp only[wy,vI,X3]
 have cc:=EN (g4.alloc [v1,v2,v3,v4]) (.aE g4.next 0 4 1) [(v1,List.replicate 144 8),(v2,List.replicate 112 9),(v3,List.replicate 24 7),(v4,List.replicate 8 8)]
  ⟨by simp [aS,H.aW],by intro s e;cases e⟩
  (by
    intro p hp
    simp only[vF,List.not_mem_nil,or_false]at hp
    rcases hp with rfl|rfl|rfl|rfl
    · rw[hv1];exact yu _ _
    · rw[hv2];exact yu _ _
    · rw[hv3];exact yu _ _
    · rw[hv4];exact yu _ _) (by rw[hc,hfl];omega) (by simp) (by rw[hc,hfl];omega)
 rw[hc]at cc
 have bt:∀e:Env,look e 2=v1→look e 4=v2→look e 6=v3→look e 8=v4→aY e (.cD 1 4 [.aP] [(0,.t 2),(1,.t 4),(2,.t 6),(3,.t 8)])=some ([v1,v2,v3,v4],fun i=>.aE i 0 4 1):=by
  intro e q1 q2 q3 q4
  simp only[aY,XX,Yk,sI,q1,q2,q3,q4]
  rw[hv1,hv2,hv3,hv4];rfl
 refine uz (fn:=AP.f42) (h2:=g4.alloc [v1,v2,v3,v4]) (e:=[(0,wP wy)]) rfl rfl rfl ?_ rfl ?_
 · rw[←hv1]at r1;rw[←hv2]at r2;rw[←hv3]at r3;rw[←hv4]at r4
   rw[←hg4]at r4
   have r1':aR AP.A 43 [.aE h.dN.next 0 1 1,I 144] (h.dN.alloc [I 8])=some (v1,h.dN.alloc [I 8]):=r1
   have r2':aR AP.A 43 [.aE (h.dN.alloc [I 8]).next 0 1 1,I 112] ((h.dN.alloc [I 8]).alloc [I 9])=some (v2,(h.dN.alloc [I 8]).alloc [I 9]):=r2
   have r3':aR AP.A 43 [.aE ((h.dN.alloc [I 8]).alloc [I 9]).next 0 1 1,I 24] (((h.dN.alloc [I 8]).alloc [I 9]).alloc [I 7])=some (v3,((h.dN.alloc [I 8]).alloc [I 9]).alloc [I 7]):=r3
   have r4':aR AP.A 43 [.aE (((h.dN.alloc [I 8]).alloc [I 9]).alloc [I 7]).next 0 1 1,I 8] g4=some (v4,g4):=r4
   clear r1 r2 r3 r4 hv1 hv2 hv3 hv4 hc
   simp only[I]at *
   simp only[AP.f42,go_sem,Sr,I,r1',r2',r3',←hg4,r4']
   rw[bt _ rfl rfl rfl rfl]
   simp only[mL,sX,go_sem,cc]
 · simp only[dh];unfold snap wP;rfl
def vQ:List Int:=[16,17,18,0,8,7,9,6,10,5,11,4,12,3,13,2,14,1,15]
theorem La (h:H):aR AP.A 79 [] h=some (wP vQ,h):=by
 have b:aY [] (.cD 1 19 [.int .i64 0] [(0,(.c (.int .i64 16))),(1,(.c (.int .i64 17))),(2,(.c (.int .i64 18))),(3,(.c (.int .i64 0))),(4,(.c (.int .i64 8))),(5,(.c (.int .i64 7))),(6,(.c (.int .i64 9))),(7,(.c (.int .i64 6))),(8,(.c (.int .i64 10))),(9,(.c (.int .i64 5))),(10,(.c (.int .i64 11))),(11,(.c (.int .i64 4))),(12,(.c (.int .i64 12))),(13,(.c (.int .i64 3))),(14,(.c (.int .i64 13))),(15,(.c (.int .i64 2))),(16,(.c (.int .i64 14))),(17,(.c (.int .i64 1))),(18,(.c (.int .i64 15)))])=some (ints vQ,fun i=>.aE i 0 19 1):=rfl
 refine uz (fn:=AP.f79) (h2:=h.dN.alloc (ints vQ)) (e:=[(0,.aE h.next 0 19 1)]) (vs:=[.aE h.next 0 19 1]) rfl rfl rfl ?_ rfl ?_
 · have hn:h.dN.next=h.next:=rfl
   simp only[AP.f79,go_sem,b,hn]
 · show snap (h.dN.alloc (ints vQ)).get h.next 16 true (.aE h.next 0 19 1)=_
   unfold snap
   rw[if_neg (by omega),H.aW,if_pos (show h.next=h.dN.next from rfl),vi,if_pos (by decide)]
   rw[show((ints vQ).drop 0).take (19* 1)=ints vQ from rfl,yA];rfl
def Np (c:ah) (d:Option Nat) (r:List ak) (e:Env) (p:Option (AV×H)):Option (Env×H×List H):=p.bind fun q=>aN c r (aM d q.1 e) q.2
theorem DA (c:ah) (d:Option Nat) (r:List ak) (e:Env) (v:AV) (h:H):Np c d r e (some (v,h))=aN c r (aM d v e) h:=ve rfl rfl
def Ms (aO:Bool) (h:H) (p:Option (Env×H×List H)):Option (Env×H×List H):=p.bind fun q=>some (q.1,q.2.1,if aO then h::q.2.2 else q.2.2)
theorem DM (h:H) (e:Env) (h':H) (gs:List H):Ms true h (some (e,h',gs))=some (e,h',h::gs):=ve rfl rfl
theorem DL (h:H) (e:Env) (h':H) (gs:List H):Ms false h (some (e,h',gs))=some (e,h',gs):=ve rfl rfl
theorem AN (c:ah) (e:Env) (h:H):aN c [] e h=some (e,h,[h]):=ve rfl rfl
theorem GV (c:ah) (o:ak) (r:List ak) (e:Env) (h:H):aN c (o::r) e h=Ms o.op.aO h (Np c o.dst r e (aj c o e h)):=by
 rw[aN]
 unfold Ms Np
 cases hv:aj c o e h with
 |none=>rfl
 | some q =>
   obtain⟨v,h'⟩:=q
   simp only[vi]
theorem DI (c:ah) (d:Option Nat) (op:bU) (r:List ak) (e:Env) (h:H):aN c (⟨d,op,none⟩::r) e h=Ms op.aO h (Np c d r e (ai c e h op)):=GV _ _ _ _ _
theorem NC (c:ah) (d:Option Nat) (op:bU) (g:Nat) (w:Bool) (r:List ak) (e:Env) (h:H):aN c (⟨d,op,some (g,w)⟩::r) e h=Ms op.aO h (Np c d r e (lj w c e h op (look e g))):=GV _ _ _ _ _
theorem Hi {c:ah} {l:bH} {e e':Env} {h h':H} {gs:List H} (ord:List Nat) (ops:List ak) (fl:List (Nat×List Nat)) (wV:List Nat) (h1:aN c ops e h=some (e',h',gs)) (h2:aZ c ops e' gs fl=true):aL c l (.iP ord ops fl wV) e h=some (.normal,ay e' wV,h'):=by
 rw[aL,h1,vi]
 dsimp only
 rw[if_pos h2]
theorem AR {c:ah} {ops:List ak} {e:Env} {gs:List H} {i:Nat} {ks:List Nat} {r:List (Nat×List Nat)} (h1:∀k∈ks,bF c ops e gs i k=true) (h2:aZ c ops e gs r=true):aZ c ops e gs ((i,ks)::r)=true:=by
 simp only[aZ,vn,List.all_eq_true]
 exact⟨h1,h2⟩
theorem AQ {c:ah} {ops:List ak} {e:Env} {gs:List H} {i k:Nat} {o:ak} {g h':H} {d:Nat} {u:AV} (ho:ops[i]?=some o) (hg:gs[k]?=some g) (hb:o.op.aI=false) (hd:o.dst=some d) (hv:aj c o e g=some (u,h')) (hu:AV.beq u (look e d)=true):bF c ops e gs i k=true:=by
 unfold bF
 rw[ho,hg]
 dsimp only
 rw[hb]
 simp only[vj,vJ,hd,XU,hv]
 exact hu
theorem Em (k:IntKind) (n:Int):AV.beq (.int k n) (.int k n)=true:=by simp [AV.beq]
theorem CL (i o l z:Nat):AV.beq (.aE i o l z) (.aE i o l z)=true:=by simp [AV.beq]
theorem Ig (i o:Nat):AV.beq (.aD i o) (.aD i o)=true:=by simp [AV.beq]
theorem En (s:ByteArray):AV.beq (.str s) (.str s)=true:=by
 have:(s==s)=true:=by
  obtain⟨d⟩:=s
  show(d==d)=true
  exact beq_self_eq_true d
 simp [AV.beq,this]
theorem nJ.apps {h:H} {v:AV} {cs:List AV} (o:nJ h v cs) (hfn:h.floor≤h.next) {z:Nat} (bs:List AV) (hc:AV.aC bs=true) (hb:0<bs.length) (hr:roomy z (cs.length+bs.length)=true):
 ∃v' h',dJ h 1 z v bs.length bs=some (v',h')∧nJ h' v' (cs++bs)∧h'.floor=h.floor∧h.next≤h'.next∧(∀i,v.id?≠some i→i≠h.next→h'.get i=h.get i)∧v'.id?=some h.next:=by
 have hne:bs≠[]:=by intro e;rw[e]at hb;simp at hb
 rcases o with ⟨rfl,rfl⟩|⟨id,rfl,hg,hf,hne'⟩
 · refine⟨.aE h.next 0 bs.length 1,h.alloc bs, ?_,.inr ⟨h.next,by simp,by simp [H.aW], ?_,by simpa using hne⟩,by simp,by simp,fun i _ hi=>by rw[H.aW,if_neg hi],rfl⟩
   · unfold dJ
     rw[if_neg (by omega),if_neg (by simp [hc])]
     simp only[XR,vr]at hr
     simp only[hr,if_true]
   · simp;omega
 · refine⟨.aE h.next 0 (cs.length+bs.length) 1,(h.del id).alloc (cs++bs), ?_,.inr ⟨h.next,by simp,by simp [H.aW], ?_,by simp [hne]⟩,by simp,by simp,fun i h1 h2=> ?_,rfl⟩
   · unfold dJ
     rw[if_neg (by omega),if_neg (by simp [hc])]
     simp only[hf,and_self,if_true,hg,vi]
     rw[if_neg (by omega),if_pos ⟨by omega,hr⟩]
     simp
   · have:=h.lt id cs hg;simp;omega
   · rw[H.aW,H.jx,if_neg h2,H.dQ,if_neg]
     intro e;subst e;exact h1 rfl
theorem St.wV {c:SC} {S:SS} {h h':H} {ov:AV} (st:St c S h ov) (hf:h'.floor=h.floor) (hn:h.next≤h'.next) (hg:∀i,i=c.s∨i=c.r∨ov.id?=some i→h'.get i=h.get i):St c S h' ov:=by
 refine⟨by rw[hg _ (.inl rfl)];exact st.gs,by rw[hg _ (.inr (.inl rfl))];exact st.gr,st.own.mono hf fun i hi=>hg i (.inr (.inr hi)),st.sr,by rw[hf];exact st.fs,by rw[hf];exact st.fr,st.os,st.or,by rw[hf];exact vG st.nx hn,st.sz,st.xY,st.ol,st.ml⟩
theorem St.lt {c:SC} {S:SS} {h:H} {ov:AV} (st:St c S h ov) {i:Nat} (hi:i=c.s∨i=c.r∨ov.id?=some i):i<h.next:=by
 rcases hi with rfl|rfl|hi
 · exact h.lt _ _ st.gs
 · exact h.lt _ _ st.gr
 · exact st.own.lt hi
theorem St.alloc {c:SC} {S:SS} {h:H} {ov:AV} (st:St c S h ov) (cs:List AV):St c S (h.alloc cs) ov∧Fr c h ov (h.alloc cs) ov:=by
 refine⟨st.wV (by simp) (by simp) fun i hi=> ?_,⟨by simp,by simp,fun id h1 _ _ _=> ?_,fun _ q=>.inl q⟩⟩
 · have:=st.lt hi;rw[H.aW,if_neg (by omega)]
 · rw[H.aW,if_neg (by omega)]
def xK (c:SC) (y:Int) (acc:List Int) (S:SS):(Int×Nat)×SS:=
 if y=16 then(if acc=[]then((0,0),v8 700 S)else((acc.getD (acc.length-1) 0,3+(vU c 2 S).1),(vU c 2 S).2))
 else if y=17 then((0,3+(vU c 3 S).1),(vU c 3 S).2)
 else if y=18 then((0,11+(vU c 7 S).1),(vU c 7 S).2)
 else((y,1),S)
theorem BS (c:SC) (S:SS) (n:Nat) (hn:n≤16):(vU c n S).1<65536:=by
 unfold vU;split
 · have:=wQ c.text S.at_ n
   have:=XY (show 0<2 by omega) hn
   simp at *;omega
 · simp
theorem BU {l:List Int} {i:Nat} (h:i<l.length):(ints l)[i]?=some (I (l.getD i 0)):=tu (by simp [List.getD,h])
theorem Ot {c : SC} {S : SS} {h : H} {ov : AV} (st : St c S h ov) (y : Int) {av : AV} {acc : List Int} (oa : nJ h av (ints acc)) (ha : acc.length < 100000) (hne : ∀ i, av.id? = some i → i ≠ c.s ∧ i ≠ c.r ∧ ov.id? ≠ some i) :
 ∃h',aR AP.A 80 [.aD c.s 0,I y,av] h=some (.bM [I (xK c y acc S).1.1,I (xK c y acc S).1.2],h')∧St c (xK c y acc S).2 h' ov∧Fr c h ov h' ov:=by
 have ln:=oa.len
 rw[pY]at ln
 by_cases h16:y=16
 · have d16:=uI h16
   by_cases hnil:acc=[]
   · obtain⟨h',k1,k2,k3⟩:=yL st 700
     have e:xK c y acc S=((0,0),v8 700 S):=by rw[xK,if_pos h16,if_pos hnil]
     rw[e]
     refine⟨h', ?_,k2,k3⟩
     have hz:((acc.length:Int)==0)=true:=by rw[hnil];rfl
     refine tZ (fn:=AP.f80) (e:=[(6,I 0),(7,I 0)]) rfl rfl rfl ?_ rfl
     simp only[I]at *
     simp only[AP.f80,go_sem,d16,ln,hz,k1]
   · obtain⟨h',k1,k2,k3⟩:=AH st 2 2 rfl (by omega)
     have e:xK c y acc S=((acc.getD (acc.length-1) 0,3+(vU c 2 S).1),(vU c 2 S).2):=by rw[xK,if_pos h16,if_neg hnil]
     rw[e]
     have hpos:0<acc.length:=Yv.2 hnil
     have hz:((acc.length:Int)==0)=false:=uH (by omega)
     have hg:=BS c S 2 (by omega)
     have w1:IntKind.wrap .i64 (3+((vU c 2 S).1:Int))=((3+(vU c 2 S).1:Nat):Int):=by
      rw[show(3:Int)+((vU c 2 S).1:Int)=((3+(vU c 2 S).1:Nat):Int)by omega];exact vL (by omega)
     have w2:IntKind.wrap .i64 ((acc.length:Int)-1)=((acc.length-1:Nat):Int):=by
      rw[show(acc.length:Int)-1=((acc.length-1:Nat):Int)by omega];exact vL (by omega)
     have hel:=BU (l:=acc) (i:=acc.length-1) (by omega)
     obtain⟨id,i1,i2,i3⟩:=oa.elem hel
     have hid:=hne id (by rw[i1];rfl)
     have i4:h'.get id=some (ints acc):=by rw[k3.D9 id (h.lt _ _ i3) hid.1 hid.2.1 hid.2.2];exact i3
     refine⟨h', ?_,k2,k3⟩
     refine tZ (fn:=AP.f80) (e:=[(6,I (acc.getD (acc.length-1) 0)),(7,I (3+(vU c 2 S).1:Nat))]) rfl rfl rfl ?_ rfl
     generalize (vU c 2 S).1=G at *
     clear i1
     simp only[I]at *
     simp only[AP.f80,go_sem,d16,ln,hz]
     rw[Hi (e':=[(7,.int .i64 ((3+G:Nat):Int)),(6,.int .i64 (acc.getD (acc.length-1) 0)),(24,.int .i64 ((3+G:Nat):Int)),(23,.int .i64 G),(22,.aD c.s 0),(21,.int .i64 (acc.getD (acc.length-1) 0)),(20,.aD id (acc.length-1)),(19,.int .i64 (acc.length-1:Nat)),(18,.int .i64 acc.length),(17,av),(16,av),(0,.aD c.s 0),(2,av)]) (h':=h') (gs:=[h,h'])]
     · simp only[go_sem]
     · simp only[AN,DI,DA,DM,DL,bU.aO,go_sem,ln,w2,i2,i3,hel,k1,w1]
     · refine AR (fun k hk=> ?_) rfl
       obtain rfl:k=1:=by simpa using hk
       refine AQ (o:=⟨some 21,.load false 1 (.t 20),none⟩) (g:=h') (h':=h') (d:=21) (u:=.int .i64 (acc.getD (acc.length-1) 0)) rfl rfl rfl rfl ?_ ?_
       · simp only[aj,go_sem,i4,hel]
       · simp only[go_sem,Em]
 · have d16:=uH h16
   by_cases h17:y=17
   · have d17:=uI h17
     obtain⟨h',k1,k2,k3⟩:=AH st 3 3 rfl (by omega)
     have e:xK c y acc S=((0,3+(vU c 3 S).1),(vU c 3 S).2):=by rw[xK,if_neg h16,if_pos h17]
     rw[e]
     have hg:=BS c S 3 (by omega)
     have w1:IntKind.wrap .i64 (3+((vU c 3 S).1:Int))=((3+(vU c 3 S).1:Nat):Int):=by
      rw[show(3:Int)+((vU c 3 S).1:Int)=((3+(vU c 3 S).1:Nat):Int)by omega];exact vL (by omega)
     refine⟨h', ?_,k2,k3⟩
     refine tZ (fn:=AP.f80) (e:=[(6,I 0),(7,I (3+(vU c 3 S).1:Nat))]) rfl rfl rfl ?_ rfl
     simp only[I]at *
     simp only[AP.f80,go_sem,d16,d17,k1,w1]
   · have d17:=uH h17
     by_cases h18:y=18
     · have d18:=uI h18
       obtain⟨h',k1,k2,k3⟩:=AH st 7 7 rfl (by omega)
       have e:xK c y acc S=((0,11+(vU c 7 S).1),(vU c 7 S).2):=by rw[xK,if_neg h16,if_neg h17,if_pos h18]
       rw[e]
       have hg:=BS c S 7 (by omega)
       have w1:IntKind.wrap .i64 (11+((vU c 7 S).1:Int))=((11+(vU c 7 S).1:Nat):Int):=by
        rw[show(11:Int)+((vU c 7 S).1:Int)=((11+(vU c 7 S).1:Nat):Int)by omega];exact vL (by omega)
       refine⟨h', ?_,k2,k3⟩
       refine tZ (fn:=AP.f80) (e:=[(6,I 0),(7,I (11+(vU c 7 S).1:Nat))]) rfl rfl rfl ?_ rfl
       simp only[I]at *
       simp only[AP.f80,go_sem,d16,d17,d18,k1,w1]
     · have d18:=uH h18
       have e:xK c y acc S=((y,1),S):=by rw[xK,if_neg h16,if_neg h17,if_neg h18]
       rw[e]
       refine⟨h, ?_,st,Fr.refl _ _ _⟩
       refine tZ (fn:=AP.f80) (e:=[(6,I y),(7,I 1)]) rfl rfl rfl ?_ rfl
       simp only[I]at *
       simp only[AP.f80,go_sem,d16,d17,d18]
def B4 (t:ByteArray):List Int→Nat→List Int→List Int
 |[],_,o=>o
 |s::r,p,o=>B4 t r (p+3) (o.set s.toNat (vP t p 3))
def wR (t:ByteArray) (y:Int) (acc:List Int) (p:Nat):Option (Int×Nat×Nat):=
 if y=16 then(if acc=[]then none else if p+2≤8* t.size then some (acc.getD (acc.length-1) 0,3+vP t p 2,p+2)else none)
 else if y=17 then(if p+3≤8* t.size then some (0,3+vP t p 3,p+3)else none)
 else if y=18 then(if p+7≤8* t.size then some (0,11+vP t p 7,p+7)else none)
 else some (y,1,p)
def wI (t : ByteArray) (cl : List Int) (many : Nat) : Nat → List Int → Nat → Option (List Int × Nat)
 |0,_,_=>none
 | f + 1, acc, p => if acc.length < many then
     match xX t cl 15 1 0 p with
     |none=>none
     | some (y, p1) => match wR t y acc p1 with
       |none=>none
       |some (n,times,p2)=>wI t cl many f (acc++List.replicate times n) p2
   else if many<acc.length then none else some (acc,p)
def yq (t : ByteArray) (many : Nat) (p : Nat) : Option (List Int × Nat) :=
 if p+4≤8* t.size then
  let k:=vP t p 4+4
  if p+4+3* k≤8* t.size then
   let cl:=B4 t (vQ.take k) (p+4) (List.replicate 19 0)
   if we cl=0 then wI t cl many (8* t.size+1) [] (p+4+3* k)else none
  else none
 else none
theorem ED {h:H} {t:Bool} {N k:Nat} {cs:List AV} (hN:cs.length=N) (hk:k≤N):sx h 1 (.aV t cs 0 N 1) none (some (I k)) none=some (.aV t cs 0 k 1):=by
 simp [sx,hN,aB,NT hk]
theorem AO:∀s∈vQ,0≤s∧s<19:=by decide
def zD (c:SC):List Int→List Int→SS→List Int×SS
 |[],o,S=>(o,S)
 |s::r,o,S=>zD c r (o.set s.toNat ((vU c 3 S).1:Nat)) (vU c 3 S).2
theorem Fk (c:SC):∀(r o:List Int) (S:SS),(zD c r o S).1.length=o.length
 |[],o,S=>rfl
 |s::r,o,S=>by rw[zD,Fk c r];simp
theorem Lb (c : SC) : ∀ (r o : List Int) (S : SS), (∀ y ∈ o, 0 ≤ y ∧ y < 16) → ∀ y ∈ (zD c r o S).1, 0 ≤ y ∧ y < 16
 |[],o,S,h=>h
 | s :: r, o, S, h => by
   rw[zD]
   refine Lb c r _ _ fun y hy=> ?_
   rcases Yd hy with q|q
   · exact h y q
   · subst q
     have:(vU c 3 S).1<8:=by
      unfold vU;split
      · simpa using wQ c.text S.at_ 3
      · simp
     omega
theorem HJ (c:SC):∀(r o:List Int) (S:SS),S.e=0→S.at_+3* r.length≤8* c.text.size→zD c r o S=(B4 c.text r S.at_ o,{S with at_:=S.at_+3* r.length})
 |[],o,S,he,h=>rfl
 | s :: r, o, S, he, h => by
   rw[XO]at h
   have eg:vU c 3 S=(vP c.text S.at_ 3,{S with at_:=S.at_+3}):=by rw[vU,if_pos (by omega)]
   rw[zD,eg]
   dsimp only
   rw[HJ c r _ {S with at_:=S.at_+3} he (by dsimp only;omega)]
   simp only[B4,XO]
   rw[show S.at_+3+3* r.length=S.at_+3* (r.length+1)by omega]
theorem Kg (c:SC) (n:Nat) (S:SS) (h:S.e=0∨S.e=700):(vU c n S).2.e=0∨(vU c n S).2.e=700:=by
 unfold vU;split
 · exact h
 · rcases h with h|h<;>simp [v8,h]
theorem OP (c:SC) (n:Nat) (S:SS) (h:S.e=700):(vU c n S).2.e=700:=by
 unfold vU;split
 · exact h
 · simp [v8,h]
theorem ND (c:SC):∀(r o:List Int) (S:SS),(S.e=0∨S.e=700)→((zD c r o S).2.e=0∨(zD c r o S).2.e=700)
 |[],o,S,h=>h
 |s::r,o,S,h=>by rw[zD];exact ND c r _ _ (Kg c 3 S h)
theorem HI (c:SC):∀(r o:List Int) (S:SS),S.e=700→(zD c r o S).2.e=700
 |[],o,S,h=>h
 |s::r,o,S,h=>by rw[zD];exact HI c r _ _ (OP c 3 S h)
theorem Fj (c:SC):∀(r o:List Int) (S:SS),S.e=0→S.at_≤8* c.text.size→8* c.text.size<S.at_+3* r.length→(zD c r o S).2.e=700
 |[],o,S,he,hle,h=>by simp at h;omega
 | s :: r, o, S, he, hle, h => by
   rw[zD]
   rw[XO]at h
   by_cases hp:S.at_+3≤8* c.text.size
   · have eg:vU c 3 S=(vP c.text S.at_ 3,{S with at_:=S.at_+3}):=by rw[vU,if_pos hp]
     rw[eg]
     exact Fj c r _ _ he hp (by dsimp only;omega)
   · have eg:vU c 3 S=(0,{S with e:=700}):=by rw[vU,if_neg hp,v8,if_pos he]
     rw[eg]
     exact HI c r _ _ rfl
theorem Jp {c:SC} (a:Nat) (x:AV) (xs:List Int) (hxs:∀s∈xs,0≤s∧s<19) (hxl:xs.length≤19) (hac:a≠c.s∧a≠c.r) (m:AV):∀(q p o:List Int) (S:SS) (h:H) (ov:AV),xs=p++q→Rd h x (ints xs)→(∀i,x.id?≠some i)→St c S h ov→ov.id?≠some a→h.get a=some (ints o)→o.length=19→h.floor≤a→
 ∃ e' h', Lp AP.A [0, 1, 5, 18, 19, 20] AP.f64L1 [(0, .aD c.s 0), (1, m), (5, .aD a 0), (18, x), (19, I xs.length), (20, I p.length)] h = some (.exit 0, e', h') ∧ look e' 0 = .aD c.s 0 ∧ look e' 1 = m ∧ look e' 5 = .aD a 0 ∧
   St c (zD c q o S).2 h' ov∧h'.get a=some (ints (zD c q o S).1)∧h'.floor=h.floor∧h.next≤h'.next∧∀i,i<h.next→i≠c.s→i≠c.r→ov.id?≠some i→i≠a→h'.get i=h.get i
 | [], p, o, S, h, ov, hp, rd, hx, st, hoa, hg, ho, hf => by
   rw[XZ]at hp;subst hp
   refine⟨[(0,.aD c.s 0),(1,m),(5,.aD a 0),(18,x),(19,I xs.length),(20,I xs.length),(21,.bool false)],h,tM ?_,rfl,rfl,rfl,st,hg,rfl,vm _,fun _ _ _ _ _ _=>rfl⟩
   have c1:¬(xs.length:Int)<(xs.length:Int):=by omega
   simp only[I]at *
   simp only[AP.f64L1,go_sem,XP c1]
 | s :: q, p, o, S, h, ov, hp, rd, hx, st, hoa, hg, ho, hf => by
   have hlen:xs.length=p.length+(q.length+1):=by rw[hp];simp
   have c1:(p.length:Int)<(xs.length:Int):=by omega
   have hs:=hxs s (by rw[hp];simp)
   obtain⟨sn,hsn⟩:∃n:Nat,s=n:=XT hs.1
   subst hsn
   have hv:(ints xs)[p.length]?=some (I sn):=tu (by rw[hp];simp)
   obtain⟨ad,p1,p2⟩:=rd.elem hv
   have p3:=p2 h (fun _ _ q=>q)
   obtain⟨h1,k1,k2,k3⟩:=AH st 3 3 rfl (by omega)
   have hal:a<h.next:=h.lt _ _ hg
   have hg1:h1.get a=some (ints o):=by rw[k3.D9 a hal hac.1 hac.2 hoa];exact hg
   have a1:cN (I sn) 19=some sn:=kj (by omega)
   have hset:(ints o).set sn (I ((vU c 3 S).1:Nat))=ints (o.set sn ((vU c 3 S).1:Nat)):=by simp [ints,List.map_set]
   have hst:uD h1 a sn 1 [I ((vU c 3 S).1:Nat)] (some (ints o))=some (h1.set a (ints (o.set sn ((vU c 3 S).1:Nat)))):=by
    rw[uU (by rw[k3.fl];exact hf) (by rw[pY];omega) rfl,hset]
   have w2:IntKind.wrap .i64 ((p.length:Int)+1)=(((p++[(sn:Int)]).length:Nat):Int):=by
    rw[vI];exact vL (n:=p.length+1) (by omega)
   have step:aL (aR AP.A) bq AP.f64L1 (ay [(0,.aD c.s 0),(1,m),(5,.aD a 0),(18,x),(19,I xs.length),(20,I p.length)] [0,1,5,18,19,20]) h=some (.normal,[(0,.aD c.s 0),(1,m),(5,.aD a 0),(18,x),(19,I xs.length),(20,I (p++[(sn:Int)]).length)],h1.set a (ints (o.set sn ((vU c 3 S).1:Nat)))):=by
    generalize ints (o.set sn ((vU c 3 S).1:Nat))=W at *
    generalize (p++[(sn:Int)]).length=B at *
    generalize (vU c 3 S).1=G at *
    generalize ints o=OO at *
    simp only[I]at *
    simp only[AP.f64L1,go_sem,XS c1,p1,p3,k1,a1,hg1,hst,w2]
   have st2:St c (vU c 3 S).2 (h1.set a (ints (o.set sn ((vU c 3 S).1:Nat)))) ov:=k2.wV (by simp) (by simp) fun i hi=>by
    rw[H.dp,if_neg]
    rintro rfl
    rcases hi with hi|hi|hi
    · exact hac.1 hi
    · exact hac.2 hi
    · exact hoa hi
   have rd2:Rd (h1.set a (ints (o.set sn ((vU c 3 S).1:Nat)))) x (ints xs):=by
    refine⟨?_,rd.2⟩
    have:=rd.1
    unfold aS at this ⊢
    split at this
    · exact this
    · exact this
    · exact absurd rfl (hx _)
    · exact this
    · cases this
   obtain⟨e',h',q1,q2,q3,q4,q5,q6,q7,q8,q9⟩:=Jp a x xs hxs hxl hac m q (p++[(sn:Int)]) (o.set sn ((vU c 3 S).1:Nat)) _ _ ov (by rw[hp];simp) rd2 hx st2 hoa (by rw[H.dp,if_pos rfl,hg1];rfl) (by simpa using ho) (by simp [k3.fl];exact hf)
   refine⟨e',h',tN step q1,q2,q3,q4, ?_, ?_,by rw[q7];simp [k3.fl],by have:=k3.nx;simp at q8;omega,fun i i1 i2 i3 i4 i5=> ?_⟩
   · rw[zD];exact q5
   · rw[zD];exact q6
   · rw[q9 i (by have:=k3.nx;simp;omega) i2 i3 i4 i5,H.dp,if_neg i5,k3.D9 i i1 i2 i3 i4]
theorem zU {c:SC} {S:SS} {h:H} {ov:AV} (st:St c S h ov) (b:AV) (many:Nat) {av:AV} {acc:List Int} (oa:nJ h av (ints acc)) (hs:many≤acc.length∨(acc.length<many∧S.e≠0)):
 ∃e',Lp AP.A [0,1,9,10] AP.f64L0 [(0,.aD c.s 0),(1,I many),(9,b),(10,av)] h=some (.exit 2,e',h)∧look e' 0=.aD c.s 0∧look e' 1=I many∧look e' 10=av:=by
 have gs:=st.gs
 have ln:=oa.len
 rw[pY]at ln
 refine⟨[(0,.aD c.s 0),(1,I many),(9,b),(10,av),(46,.bool false)],tM ?_,rfl,rfl,rfl⟩
 rcases hs with hs|⟨hs,he⟩
 · have c1:¬(acc.length:Int)<many:=by omega
   simp only[I]at *
   simp only[AP.f64L0,go_sem,ln,XP c1]
 · have c1:(acc.length:Int)<many:=by omega
   have c2:=uH he
   simp only[I]at *
   simp only[AP.f64L0,go_sem,ln,XS c1,gs,c2]
theorem LJ {c : SC} {S : SS} {y : Int} {acc : List Int} (he : S.e = 0) :
 match wR c.text y acc S.at_ with
 |some (n,times,p)=>xK c y acc S=((n,times),{S with at_:=p})∧S.at_≤p
 |none=>(xK c y acc S).2.e=700:=by
 unfold wR xK
 by_cases h16:y=16
 · rw[if_pos h16,if_pos h16]
   by_cases hn:acc=[]
   · rw[if_pos hn,if_pos hn];simp [v8,he]
   · rw[if_neg hn,if_neg hn]
     by_cases hp:S.at_+2≤8* c.text.size
     · simp [vU,hp]
     · simp [vU,hp,v8,he]
 · rw [if_neg h16, if_neg h16]
   by_cases h17:y=17
   · rw[if_pos h17,if_pos h17]
     by_cases hp:S.at_+3≤8* c.text.size
     · simp [vU,hp]
     · simp [vU,hp,v8,he]
   · rw[if_neg h17,if_neg h17]
     by_cases h18:y=18
     · rw[if_pos h18,if_pos h18]
       by_cases hp:S.at_+7≤8* c.text.size
       · simp [vU,hp]
       · simp [vU,hp,v8,he]
     · rw[if_neg h18,if_neg h18]
       exact⟨rfl,vm _⟩
theorem Hj (c:SC) (y:Int) (acc:List Int) (S:SS):(xK c y acc S).1.2<70000:=by
 unfold xK
 have h2:=BS c S 2 (by omega)
 have h3:=BS c S 3 (by omega)
 have h7:=BS c S 7 (by omega)
 repeat' split
 all_goals (dsimp only;omega)
theorem GI {c : SC} (h0 : H) (cl : List Int) (hcl : cl.length < 100000) (many : Nat) (hm : many ≤ 400) : ∀ (f : Nat) (acc : List Int) (S : SS) (h : H) (ov av : AV), St c S h ov → S.e = 0 → 8 * c.text.size < S.at_ + f → Fr c h0 ov h ov → nJ h av (ints acc) → acc.length < 80000 → (∀ i, av.id? = some i → h0.next ≤ i) → (∀ i, (i = c.s ∨ i = c.r ∨ ov.id? = some i) → i < h0.next) →
 ∃ e' h' S' av' acc', Lp AP.A [0, 1, 9, 10] AP.f64L0 [(0, .aD c.s 0), (1, I many), (9, wE cl), (10, av)] h = some (.exit 2, e', h') ∧ look e' 0 = .aD c.s 0 ∧ look e' 1 = I many ∧ look e' 10 = av' ∧ St c S' h' ov ∧ Fr c h0 ov h' ov ∧ nJ h' av' (ints acc') ∧ acc'.length < 200000 ∧ (∀ i, av'.id? = some i → h0.next ≤ i) ∧
   match wI c.text cl many f acc S.at_ with
   |some (L,p)=>S'={S with at_:=p}∧acc'=L∧L.length=many
   |none=>S'.e=700∨(S'.e=0∧many<acc'.length)
 |0,acc,S,h,ov,av,st,he,hk,fr,oa,hal,hid,hlo=>by have:=st.xY;omega
 | f + 1, acc, S, h, ov, av, st, he, hk, fr, oa, hal, hid, hlo => by
   by_cases hlt:acc.length<many
   · rw [wI, if_pos hlt]
     have gs:=st.gs
     have ln:=oa.len
     rw[pY]at ln
     have c1:(acc.length:Int)<many:=by omega
     obtain⟨h1,S1,y,s1,s2,s3,s4⟩:=FI cl hcl st he
     have hneq:∀i,av.id?=some i→i≠c.s∧i≠c.r∧ov.id?≠some i:=fun i hi=>by
      have:=hid i hi
      refine⟨fun e=> ?_,fun e=> ?_,fun e=> ?_⟩
      · have:=hlo i (.inl e);omega
      · have:=hlo i (.inr (.inl e));omega
      · have:=hlo i (.inr (.inr e));omega
     have oa1:nJ h1 av (ints acc):=oa.mono s3.fl fun i hi=>s3.D9 i (oa.lt hi) (hneq i hi).1 (hneq i hi).2.1 (hneq i hi).2.2
     obtain⟨h2,r1,r2,r3⟩:=Ot s2 y oa1 (by omega) hneq
     have oa2:nJ h2 av (ints acc):=oa1.mono r3.fl fun i hi=>r3.D9 i (oa1.lt hi) (hneq i hi).1 (hneq i hi).2.1 (hneq i hi).2.2
     obtain⟨n,hn⟩:∃n,n=(xK c y acc S1).1.1:=⟨_,rfl⟩
     obtain⟨times,htm⟩:∃n,n=(xK c y acc S1).1.2:=⟨_,rfl⟩
     obtain⟨S2,hS2⟩:∃n,n=(xK c y acc S1).2:=⟨_,rfl⟩
     have htb:=Hj c y acc S1
     rw[←hn,←htm]at r1;rw[←hS2]at r2;rw[←htm]at htb
     have al:=r2.alloc [I n]
     have rp:=Ae (h2.alloc [I n]) (.aE h2.next 0 1 1) n times (by omega) (BW _ _)
     have oa3:nJ (h2.alloc [I n]) av (ints acc):=oa2.mono (by simp) fun i hi=>by
      have:=oa2.lt hi;rw[H.aW,if_neg (by omega)]
     have hfr3:=((fr.trans s3).trans r3).trans al.2
     have hap:∃v' h3,kM (h2.alloc [I n]) 1 8 av (.aV false (ints (List.replicate times n)) 0 times 1)=some (v',h3)∧nJ h3 v' (ints (acc++List.replicate times n))∧St c S2 h3 ov∧Fr c h0 ov h3 ov∧∀i,v'.id?=some i→h0.next≤i:=by
      have src:aS (h2.alloc [I n]) 1 (.aV false (ints (List.replicate times n)) 0 times 1)=some (times,ints (List.replicate times n)):=by
       simp [aS,vD]
      by_cases ht0:times=0
      · subst ht0
        refine⟨av,h2.alloc [I n], ?_,by simpa using oa3,al.1,hfr3,hid⟩
        unfold kM
        rw[src,vi]
        unfold dJ
        rw[if_pos rfl]
        rcases oa3 with ⟨rfl,_⟩|⟨id,rfl,_⟩<;>rfl
      · have hnx:=al.1.nx
        obtain⟨v',h3,q1,q2,q3,q4,q5,q6⟩:=oa3.apps hnx (z:=8) (ints (List.replicate times n)) (jK _) (by simp;omega) (by simp [roomy];omega)
        refine⟨v',h3, ?_,by rw[pX];exact q2,al.1.wV q3 q4 fun i hi=> ?_,⟨q3.trans hfr3.fl,vG hfr3.nx q4,fun id i1 i2 i3 i4=> ?_,fun i hi=>.inl hi⟩,fun i hi=> ?_⟩
        · unfold kM
          rw[src,vi]
          have hl:(ints (List.replicate times n)).length=times:=by simp
          rw[hl]at q1;exact q1
        · have hlt0:=hlo i hi
          have hle:h0.next≤(h2.alloc [I n]).next:=hfr3.nx
          exact q5 i (fun e=>by have:=hid i e;omega) (by omega)
        · have hle:h0.next≤(h2.alloc [I n]).next:=hfr3.nx
          rw[q5 id (fun e=>by have:=hid id e;omega) (by omega)]
          exact hfr3.D9 id i1 i2 i3 i4
        · rw[q6]at hi;cases hi;exact hfr3.nx
     obtain⟨v',h3,ap1,ap2,ap3,ap4,ap5⟩:=hap
     have step:aL (aR AP.A) bq AP.f64L0 (ay [(0,.aD c.s 0),(1,I many),(9,wE cl),(10,av)] [0,1,9,10]) h=some (.normal,[(0,.aD c.s 0),(1,I many),(9,wE cl),(10,v')],h3):=by
      have bs:∀(e:Env),look e 57=.int .i64 n→aY e (.cD 1 1 [.int .i64 0] [(0,.t 57)])=some ([.int .i64 n],fun i=>.aE i 0 1 1):=by
       intro e q
       simp only[aY,XX,Yk,sI,q];rfl
      simp only[I]at *
      simp only[AP.f64L0,go_sem,ln,XS c1,gs,he,s1,r1]
      rw[bs _ rfl]
      simp only[go_sem,rp,ap1]
     have hacc':(acc++List.replicate times n).length<80000:=by simp;omega
     cases hz:xX c.text cl 15 1 0 S.at_ with
     | none =>
       rw[hz]at s4
       obtain⟨s4,s5⟩:=s4
       have hy:y=256:=s5
       have hag:xK c y acc S1=((y,1),S1):=by rw[xK,if_neg (by omega),if_neg (by omega),if_neg (by omega)]
       have hS2e:S2.e=700:=by rw[hS2,hag];exact s4
       dsimp only
       by_cases hlt2:(acc++List.replicate times n).length<many
       · obtain⟨e',q1,q2,q3,q4⟩:=zU ap3 (wE cl) many ap2 (.inr ⟨hlt2,by rw[hS2e];decide⟩)
         exact⟨e',h3,S2,v',_,tN step q1,q2,q3,q4,ap3,ap4,ap2,by omega,ap5,.inl hS2e⟩
       · obtain⟨e',q1,q2,q3,q4⟩:=zU ap3 (wE cl) many ap2 (.inl (by omega))
         exact⟨e',h3,S2,v',_,tN step q1,q2,q3,q4,ap3,ap4,ap2,by omega,ap5,.inl hS2e⟩
     | some yp =>
       obtain⟨z,p1⟩:=yp
       rw[hz]at s4
       obtain⟨s4,s5⟩:=s4
       subst s5 s4
       have zb:=yf hz
       have hok:=LJ (c:=c) (S:={S with at_:=p1}) (y:=y) (acc:=acc) he
       dsimp only at hok ⊢
       cases ha:wR c.text y acc p1 with
       | none =>
         rw[ha]at hok
         have hS2e:S2.e=700:=by rw[hS2];exact hok
         dsimp only
         by_cases hlt2:(acc++List.replicate times n).length<many
         · obtain⟨e',q1,q2,q3,q4⟩:=zU ap3 (wE cl) many ap2 (.inr ⟨hlt2,by rw[hS2e];decide⟩)
           exact⟨e',h3,S2,v',_,tN step q1,q2,q3,q4,ap3,ap4,ap2,by omega,ap5,.inl hS2e⟩
         · obtain⟨e',q1,q2,q3,q4⟩:=zU ap3 (wE cl) many ap2 (.inl (by omega))
           exact⟨e',h3,S2,v',_,tN step q1,q2,q3,q4,ap3,ap4,ap2,by omega,ap5,.inl hS2e⟩
       | some q =>
         obtain⟨n2,t2,p2⟩:=q
         rw[ha]at hok
         obtain⟨hok,hp12⟩:=hok
         rw[hok]at hn htm hS2
         dsimp only at hn htm hS2
         subst hn htm hS2
         obtain⟨e',h',S',av',acc',q1,q2,q3,q4,q5,q6,q7,q8,q9,q10⟩:=GI h0 cl hcl many hm f (acc++List.replicate times n) _ h3 ov v' ap3 he (by dsimp only;omega) ap4 ap2 hacc' ap5 hlo
         exact⟨e',h',S',av',acc',tN step q1,q2,q3,q4,q5,q6,q7,q8,q9,q10⟩
   · obtain⟨e',q1,q2,q3,q4⟩:=zU st (wE cl) many oa (.inl (by omega))
     refine⟨e',h,S,av,acc,q1,q2,q3,q4,st,fr,oa,by omega,hid, ?_⟩
     rw[wI,if_neg hlt]
     by_cases hgt:many<acc.length
     · rw[if_pos hgt];exact .inr ⟨he,hgt⟩
     · rw[if_neg hgt];exact⟨rfl,rfl,by omega⟩
theorem Mh {c : SC} {S : SS} {h : H} {ov : AV} (st : St c S h ov) (he : S.e = 0) (many : Nat) (hm0 : 0 < many) (hm : many ≤ 400) :
 ∃ h' S' av acc, aR AP.A 64 [.aD c.s 0, I many] h = some (av, h') ∧ St c S' h' ov ∧ Fr c h ov h' ov ∧ nJ h' av (ints acc) ∧ (∀ i, av.id? = some i → h.next ≤ i) ∧ match yq c.text many S.at_ with
   |some (L,p)=>S'={S with at_:=p}∧acc=L∧L.length=many
   |none=>S'.e=700:=by
 have gs:=st.gs
 obtain⟨a,ha⟩:∃a,a=h.next:=⟨_,rfl⟩
 obtain⟨g0,hg0⟩:∃g,g=h.alloc (ints (List.replicate 19 0)):=⟨_,rfl⟩
 have al:=st.alloc (ints (List.replicate 19 0))
 rw[←hg0]at al
 have hga:g0.get a=some (ints (List.replicate 19 0)):=by rw[hg0,H.aW,if_pos ha]
 have oc:=La g0
 obtain⟨h1,k1,k2,k3⟩:=AH al.1 4 4 rfl (by omega)
 obtain⟨G,hG⟩:∃G,G=(vU c 4 S).1:=⟨_,rfl⟩
 obtain⟨S1,hS1⟩:∃G,G=(vU c 4 S).2:=⟨_,rfl⟩
 rw[←hG]at k1;rw[←hS1]at k2
 have hG16:G<16:=by
  rw[hG];unfold vU;split
  · simpa using wQ c.text S.at_ 4
  · simp
 have w1:IntKind.wrap .i64 ((G:Int)+4)=((G+4:Nat):Int):=vL (n:=G+4) (by omega)
 obtain⟨x,hx⟩:∃x,x=AV.aV false (ints vQ) 0 (G+4) 1:=⟨_,rfl⟩
 have sl:sx h1 1 (wP vQ) none (some (I (G+4:Nat))) none=some x:=by
  rw[hx];exact ED (by rw[pY]) (by show G+4≤19;omega)
 have xl:jc false x=some (I (G+4:Nat)):=by rw[hx];rfl
 obtain⟨xs,hxs⟩:∃xs,xs=vQ.take (G+4):=⟨_,rfl⟩
 have hol:vQ.length=19:=rfl
 have hxsl:xs.length=G+4:=by rw[hxs,Yb,hol];omega
 have rdx:Rd h1 x (ints xs):=by
  refine⟨?_,by rw[hx];intro s e;cases e⟩
  have ht:(ints vQ).take (G+4)=ints xs:=by rw[hxs];simp [ints,List.map_take]
  simp only[aS,hx,if_true]
  rw[if_pos (by rw[pY,hol];omega),X9,Yy,ht];simp [hxsl]
 have hac:a≠c.s∧a≠c.r:=⟨fun e=>by have:=st.lt (.inl e);omega,fun e=>by have:=st.lt (.inr (.inl e));omega⟩
 have hoa:ov.id?≠some a:=fun e=>by have:=st.lt (.inr (.inr e));omega
 have hga1:h1.get a=some (ints (List.replicate 19 0)):=by rw[k3.D9 a (g0.lt _ _ hga) hac.1 hac.2 hoa];exact hga
 have hfa:h1.floor≤a:=by rw[k3.fl,hg0,ha];simp;exact st.nx
 obtain⟨e2,h2,l1,l2,l3,l4,l5,l6,l7,l8,l9⟩:=Jp (c:=c) a x xs (fun s hs=>AO s (Yt (hxs ▸ hs))) (by omega) hac (I many) xs [] (List.replicate 19 0) S1 h1 ov rfl rdx (by rw[hx];intro i e;cases e) k2 hoa hga1 (by simp) hfa
 obtain⟨cl,hcl⟩:∃cl,cl=(zD c xs (List.replicate 19 0) S1).1:=⟨_,rfl⟩
 obtain⟨S2,hS2⟩:∃cl,cl=(zD c xs (List.replicate 19 0) S1).2:=⟨_,rfl⟩
 rw[←hS2]at l5;rw[←hcl]at l6
 have hcll:cl.length=19:=by rw[hcl,Fk];simp
 have hclb:∀y∈cl,0≤y∧y<16:=by
  rw[hcl];refine Lb c _ _ _ fun y hy=> ?_
  obtain⟨_,rfl⟩:=List.mem_replicate.1 hy;omega
 rw[hxsl]at l1
 have l1':Lp AP.A [0,1,5,18,19,20] AP.f64L1 [(0,.aD c.s 0),(1,I many),(5,.aD a 0),(18,x),(19,I (G+4:Nat)),(20,I 0)] h1=some (.exit 0,e2,h2):=l1
 clear l1
 have fr2:Fr c h ov h2 ov:=by
  refine⟨by rw[l7,k3.fl,al.2.fl], ?_,fun id i1 i2 i3 i4=> ?_,fun i hi=>.inl hi⟩
  · have:=al.2.nx;have:=k3.nx;omega
  · have hn0:g0.next=h.next+1:=by rw[hg0];simp
    have:=k3.nx
    rw[l9 id (by omega) i2 i3 i4 (by omega),k3.D9 id (by omega) i2 i3 i4,al.2.D9 id i1 i2 i3 i4]
 have rZ:mJ h2 19 1 (.aD a 0) none none=some (.aE a 0 19 1):=by
  simp [mJ,l6,aB,hcll]
 have gW:Rd h2 (.aE a 0 19 1) (ints cl):=by
  refine⟨?_,by intro s e;cases e⟩
  simp [aS,l6,hcll,vD]
 have ck:=Hp h2 (.aE a 0 19 1) cl (by omega) gW
 have mk:=BD h2 (.aE a 0 19 1) cl (by omega) hclb gW
 have hhead:(we cl=0∧S2.e=0∧S.at_+4≤8* c.text.size∧S.at_+4+3* (vP c.text S.at_ 4+4)≤8* c.text.size∧cl=B4 c.text (vQ.take (vP c.text S.at_ 4+4)) (S.at_+4) (List.replicate 19 0)∧S2={S with at_:=S.at_+4+3* (vP c.text S.at_ 4+4)})∨((we cl≠0∨S2.e≠0)∧(S2.e=0∨S2.e=700)∧yq c.text many S.at_=none):=by
  by_cases hp:S.at_+4≤8* c.text.size
  · have eg:vU c 4 S=(vP c.text S.at_ 4,{S with at_:=S.at_+4}):=by rw[vU,if_pos hp]
    rw[eg]at hG hS1;dsimp only at hG hS1
    subst hS1
    by_cases hp2:S.at_+4+3* (vP c.text S.at_ 4+4)≤8* c.text.size
    · have ok:=HJ c xs (List.replicate 19 0) {S with at_:=S.at_+4} he (by dsimp only;omega)
      rw[ok]at hcl hS2
      dsimp only at hcl hS2
      rw[hxsl,hG]at hS2
      rw[hxs,hG]at hcl
      by_cases hck:we cl=0
      · exact .inl ⟨hck,by rw[hS2];exact he,hp,hp2,hcl,hS2⟩
      · refine .inr ⟨.inl hck,.inl (by rw[hS2];exact he), ?_⟩
        rw[yq,if_pos hp];dsimp only;rw[if_pos hp2,←hcl,if_neg hck]
    · have hb:=Fj c xs (List.replicate 19 0) {S with at_:=S.at_+4} he (by dsimp only;omega) (by dsimp only;omega)
      rw[←hS2]at hb
      refine .inr ⟨.inr (by rw[hb];decide),.inr hb, ?_⟩
      rw[yq,if_pos hp];dsimp only;rw[if_neg hp2]
  · have eg:vU c 4 S=(0,{S with e:=700}):=by rw[vU,if_neg hp,v8,if_pos he]
    rw[eg]at hS1;dsimp only at hS1
    have hb:=HI c xs (List.replicate 19 0) S1 (by rw[hS1])
    rw[←hS2]at hb
    exact .inr ⟨.inr (by rw[hb];decide),.inr hb,by rw[yq,if_neg hp]⟩
 have hbk:∀(h3:H) (S3:SS),St c S3 h3 ov→Fr c h ov h3 ov→aR AP.A 41 [.aE a 0 19 1] h3=some (wE cl,h3)→mJ h3 19 1 (.aD a 0) none none=some (.aE a 0 19 1)→
  (aL (aR AP.A) bq (.cond (.t 31) (.pd [⟨some 32,.mv (.t 0),none⟩,⟨some 33,.call (.c (.fn 45 [] [])) [(.t 32),(.c (.int .i64 700))],none⟩] [0,1,5]) .skip [0,1,5]) [(0,.aD c.s 0),(1,I many),(5,.aD a 0),(31,.bool (we cl !=0))] h2=some (.normal,[(0,.aD c.s 0),(1,I many),(5,.aD a 0)],h3))→
  ∀(e4:Env) (h4:H) (av:AV) (acc:List Int) (h5:H),Lp AP.A [0,1,9,10] AP.f64L0 [(0,.aD c.s 0),(1,I many),(9,wE cl),(10,.aP)] h3=some (.exit 2,e4,h4)→look e4 0=.aD c.s 0→look e4 1=I many→look e4 10=av→jc false av=some (I acc.length)→
  (many<acc.length→aR AP.A 45 [.aD c.s 0,I 700] h4=some (.bM [],h5))→(¬many<acc.length→h5=h4)→aR AP.A 64 [.aD c.s 0,I many] h=some (av,h5):=by
  intro h3 S3 st3 fr3 mk3 sla3 cnd e4 h4 av acc h5 m1 m2 m3 m4 m5 m6 m7
  refine tZ (fn:=AP.f64) (e:=[(4,av)]) (vs:=[av]) rfl rfl rfl ?_ rfl
  have bt:∀e:Env,aY e (.alloc [.int .i64 0,.int .i64 0,.int .i64 0,.int .i64 0,.int .i64 0,.int .i64 0,.int .i64 0,.int .i64 0,.int .i64 0,.int .i64 0,.int .i64 0,.int .i64 0,.int .i64 0,.int .i64 0,.int .i64 0,.int .i64 0,.int .i64 0,.int .i64 0,.int .i64 0])=some (ints (List.replicate 19 0),fun i=>.aD i 0):=fun _=>rfl
  unfold AP.f64
  refine uR (e1:=[(0,.aD c.s 0),(1,I many)]) (h1:=h) rfl ?_
  refine uR (e1:=[(0,.aD c.s 0),(1,I many),(5,.aD a 0)]) (h1:=g0) ?_ ?_
  · simp only[go_sem,bt,←hg0,←ha]
  refine uR (e1:=[(0,.aD c.s 0),(1,I many),(5,.aD a 0),(6,wP vQ)]) (h1:=g0) ?_ ?_
  · simp only[go_sem,oc]
  refine uR (e1:=[(0,.aD c.s 0),(1,I many),(5,.aD a 0)]) (h1:=h2) ?_ ?_
  · clear bt
    simp only[I]at *
    simp only[go_sem,k1,w1,XU,Yf,sl,xl,sG,l1',l2,l3,l4]
  refine uR (e1:=[(0,.aD c.s 0),(1,I many),(5,.aD a 0)]) (h1:=h3) ?_ ?_
  · refine uR (e1:=[(0,.aD c.s 0),(1,I many),(5,.aD a 0),(31,.bool (we cl !=0))]) (h1:=h2) ?_ cnd
    simp only[I]at *
    simp only[go_sem,Yf,rZ,ck]
  refine uR (e1:=[(0,.aD c.s 0),(1,I many),(9,wE cl)]) (h1:=h3) ?_ ?_
  · simp only[go_sem,Yf,sla3,mk3]
  refine uR (e1:=[(0,.aD c.s 0),(1,I many),(9,wE cl),(10,.aP)]) (h1:=h3) rfl ?_
  refine uR (e1:=[(0,.aD c.s 0),(1,I many),(10,av)]) (h1:=h4) ?_ ?_
  · simp only[go_sem,sG,m1,m2,m3,m4]
  refine uR (e1:=[(10,av)]) (h1:=h5) ?_ ?_
  · by_cases hgt:many<acc.length
    · have c1:(many:Int)<(acc.length:Int):=by omega
      have m6':=m6 hgt
      clear m6 m7
      simp only[I]at *
      simp only[go_sem,m5,XS c1,m6']
    · have c1:¬(many:Int)<(acc.length:Int):=by omega
      have m7':=m7 hgt
      subst m7'
      clear m6 m7
      simp only[I]at *
      simp only[go_sem,m5,XP c1]
  simp only[go_sem]
 rcases hhead with ⟨hck,he2,hp,hp2,hcl2,hS22⟩|⟨hbad,he2,hnone⟩
 · have hlen0:yq c.text many S.at_=wI c.text cl many (8* c.text.size+1) [] S2.at_:=by
    rw[yq,if_pos hp];dsimp only;rw[if_pos hp2,←hcl2,if_pos hck,hS22]
   have cnd:aL (aR AP.A) bq (.cond (.t 31) (.pd [⟨some 32,.mv (.t 0),none⟩,⟨some 33,.call (.c (.fn 45 [] [])) [(.t 32),(.c (.int .i64 700))],none⟩] [0,1,5]) .skip [0,1,5]) [(0,.aD c.s 0),(1,I many),(5,.aD a 0),(31,.bool (we cl !=0))] h2=some (.normal,[(0,.aD c.s 0),(1,I many),(5,.aD a 0)],h2):=by
    have cb:(we cl !=0)=false:=uJ hck
    simp only[go_sem,cb]
   obtain⟨e4,h4,S4,av,acc,m1,m2,m3,m4,m5,m6,m7,m8,m9,m10⟩:=GI h cl (by omega) many hm (8* c.text.size+1) [] S2 h2 ov .aP l5 he2 (by omega) fr2 (.inl ⟨rfl,rfl⟩) (by simp) (fun i q=>by cases q) (fun i hi=>st.lt hi)
   have ln:=m7.len
   rw[pY]at ln
   rw[hlen0]
   cases hL:wI c.text cl many (8* c.text.size+1) [] S2.at_ with
   | some q =>
     obtain⟨L,p⟩:=q
     rw[hL]at m10
     obtain⟨n1,n2,n3⟩:=m10
     have hng:¬many<acc.length:=by rw[n2];omega
     refine⟨h4,S4,av,acc,hbk h2 S2 l5 fr2 mk rZ cnd e4 h4 av acc h4 m1 m2 m3 m4 ln (fun q=>absurd q hng) (fun _=>rfl),m5,m6,m7,m9, ?_,n2,n3⟩
     rw[n1,hS22]
   | none =>
     rw[hL]at m10
     dsimp only at m10 ⊢
     by_cases hgt:many<acc.length
     · obtain⟨h5,f1,f2,f3⟩:=yL m5 700
       refine⟨h5,v8 700 S4,av,acc,hbk h2 S2 l5 fr2 mk rZ cnd e4 h4 av acc h5 m1 m2 m3 m4 ln (fun _=>f1) (fun q=>absurd hgt q),f2,m6.trans f3, ?_,m9, ?_⟩
       · refine m7.mono f3.fl fun i hi=>f3.D9 i (m7.lt hi) (fun e=> ?_) (fun e=> ?_) (fun e=> ?_)
         · have:=m9 i hi;have:=st.lt (.inl e);omega
         · have:=m9 i hi;have:=st.lt (.inr (.inl e));omega
         · have:=m9 i hi;have:=st.lt (.inr (.inr e));omega
       · rcases m10 with q|⟨q,_⟩<;>simp [v8,q]
     · refine⟨h4,S4,av,acc,hbk h2 S2 l5 fr2 mk rZ cnd e4 h4 av acc h4 m1 m2 m3 m4 ln (fun q=>absurd q hgt) (fun _=>rfl),m5,m6,m7,m9, ?_⟩
       rcases m10 with q|⟨_,q⟩
       · exact q
       · exact absurd q hgt
 · rw [hnone]
   have key:∃h3 S3,St c S3 h3 ov∧Fr c h ov h3 ov∧S3.e=700∧h3.get a=some (ints cl)∧aL (aR AP.A) bq (.cond (.t 31) (.pd [⟨some 32,.mv (.t 0),none⟩,⟨some 33,.call (.c (.fn 45 [] [])) [(.t 32),(.c (.int .i64 700))],none⟩] [0,1,5]) .skip [0,1,5]) [(0,.aD c.s 0),(1,I many),(5,.aD a 0),(31,.bool (we cl !=0))] h2=some (.normal,[(0,.aD c.s 0),(1,I many),(5,.aD a 0)],h3):=by
    by_cases hck:we cl=0
    · have hb:S2.e≠0:=by rcases hbad with q|q;exact absurd hck q;exact q
      refine⟨h2,S2,l5,fr2,by rcases he2 with q|q;exact absurd q hb;exact q,l6, ?_⟩
      have cb:(we cl !=0)=false:=uJ hck
      simp only[go_sem,cb]
    · obtain⟨h3,f1,f2,f3⟩:=yL l5 700
      refine⟨h3,v8 700 S2,f2,fr2.trans f3,by rcases he2 with q|q<;>simp [v8,q],by rw[f3.D9 a (h2.lt _ _ l6) hac.1 hac.2 hoa];exact l6, ?_⟩
      have cb:(we cl !=0)=true:=uK hck
      simp only[I]at *
      simp only[go_sem,cb,f1]
   obtain⟨h3,S3,st3,fr3,he3,hg3,cnd⟩:=key
   have sla3:mJ h3 19 1 (.aD a 0) none none=some (.aE a 0 19 1):=by
    simp [mJ,hg3,aB,hcll]
   have rdc3:Rd h3 (.aE a 0 19 1) (ints cl):=by
    refine⟨?_,by intro s e;cases e⟩
    simp [aS,hg3,hcll,vD]
   have mk3:=BD h3 (.aE a 0 19 1) cl (by omega) hclb rdc3
   obtain⟨e4,m1,m2,m3,m4⟩:=zU st3 (wE cl) many (av:=.aP) (acc:=[]) (.inl ⟨rfl,rfl⟩) (.inr ⟨by simpa using hm0,by rw[he3];decide⟩)
   exact⟨h3,S3,.aP,[],hbk h3 S3 st3 fr3 mk3 sla3 cnd e4 h3 .aP [] h3 m1 m2 m3 m4 rfl (fun q=>by simp at q) (fun _=>rfl),st3,fr3,.inl ⟨rfl,rfl⟩,(fun i q=>by cases q),he3⟩
def yP (l:List Int):Prop:=∀y∈l,0≤y∧y<16
theorem JT {t : ByteArray} {y : Int} {acc : List Int} {n : Int} {q times p2 : Nat} (hy : 0 ≤ y ∧ y < 19) (ha : yP acc) (h : wR t y acc q = some (n, times, p2)) : 0 ≤ n ∧ n < 16 := by
 unfold wR at h
 split at h
 · split at h
   · cases h
   · rename_i hn
     split at h
     · have:=Yh (fun o=>o.map (·.1)) h
       simp only[XU,vb]at this
       rw[←this]
       have hl:0<acc.length:=Yv.2 hn
       refine ha _ ?_
       rw[XN,XQ (by omega)]
       exact X4 _
     · cases h
 · split at h
   · split at h
     · have:=Yh (fun o=>o.map (·.1)) h
       simp only[XU,vb]at this;omega
     · cases h
   · split at h
     · split at h
       · have:=Yh (fun o=>o.map (·.1)) h
         simp only[XU,vb]at this;omega
       · cases h
     · have:=Yh (fun o=>o.map (·.1)) h
       simp only[XU,vb]at this;omega
theorem C9 {t : ByteArray} {cl : List Int} (hcl : cl.length = 19) {many : Nat} : ∀ {f : Nat} {acc : List Int} {p : Nat} {L : List Int} {p2 : Nat}, yP acc → wI t cl many f acc p = some (L, p2) → yP L
 |0,_,_,_,_,_,h=>by cases h
 | f + 1, acc, p, L, p2, ha, h => by
   rw[wI]at h
   split at h
   · split at h
     · cases h
     · rename_i y p1 hs
       have sb:=yf hs
       split at h
       · cases h
       · rename_i n times q hag
         have hr:=JT ⟨sb.1,by omega⟩ ha hag
         exact C9 hcl (fun y hy=>by
          rcases Ya.1 hy with hy|hy
          · exact ha y hy
          · obtain⟨_,rfl⟩:=List.mem_replicate.1 hy;exact hr) h
   · split at h
     · cases h
     · have:=Yh (fun o=>o.map (·.1)) h
       simp only[XU,vb]at this;rw[←this];exact ha
theorem Jm (t:ByteArray):∀(r:List Int) (p:Nat) (o:List Int),(B4 t r p o).length=o.length
 |[],_,_=>rfl
 |s::r,p,o=>by rw[B4,Jm t r];simp
theorem GH {t:ByteArray} {many p:Nat} {L:List Int} {p2:Nat} (h:yq t many p=some (L,p2)):yP L:=by
 unfold yq at h
 split at h
 · dsimp only at h
   split at h
   · split at h
     · exact C9 (by rw[Jm];simp) (fun y hy=>by cases hy) h
     · cases h
   · cases h
 · cases h
def A4 (t : ByteArray) (most : Int) (p : Nat) (out : List Nat) : Rs :=
 if p+10≤8* t.size then
  let lits:=vP t p 5+257
  let dists:=vP t (p+5) 5+1
  if 286<lits∨30<dists then .error 700 else
  match yq t (lits+dists) (p+10)with
  |none=>.error 700
  | some (L, p2) =>
    if we (L.take lits)≠0∨(L.take lits).getD 256 0=0∨(we (L.drop lits)≠0∧xL (L.drop lits)=false)then .error 700
    else xy t most (L.take lits) (L.drop lits) (8* t.size+1) p2 out
 else .error 700
theorem LW {c : SC} {S : SS} {h : H} {ov : AV} (st : St c S h ov) (he : S.e = 0) :
 ∃h' ov' S',aR AP.A 44 [.aD c.s 0] h=some (.bM [],h')∧St c S' h' ov'∧Fr c h ov h' ov'∧Fin (A4 c.text c.most S.at_ S.out) S':=by
 obtain⟨h1,a1,a2,a3⟩:=AH st 5 5 rfl (by omega)
 obtain⟨h2,b1,b2,b3⟩:=AH a2 5 5 rfl (by omega)
 obtain⟨A,hA⟩:∃n,n=(vU c 5 S).1:=⟨_,rfl⟩
 obtain⟨S1,hS1⟩:∃n,n=(vU c 5 S).2:=⟨_,rfl⟩
 rw[←hA]at a1;rw[←hS1]at a2 b1 b2
 obtain⟨B,hB⟩:∃n,n=(vU c 5 S1).1:=⟨_,rfl⟩
 obtain⟨S2,hS2⟩:∃n,n=(vU c 5 S1).2:=⟨_,rfl⟩
 rw[←hB]at b1;rw[←hS2]at b2
 have g5:∀S,(vU c 5 S).1<32:=fun S=>by
  unfold vU;split
  · simpa using wQ c.text S.at_ 5
  · simp
 have hA32:A<32:=hA ▸ g5 S
 have hB32:B<32:=hB ▸ g5 S1
 have w1:IntKind.wrap .i64 ((A:Int)+257)=((A+257:Nat):Int):=vL (n:=A+257) (by omega)
 have w2:IntKind.wrap .i64 ((B:Int)+1)=((B+1:Nat):Int):=vL (n:=B+1) (by omega)
 have gs2:=b2.gs
 have he2:S2.e=0∨S2.e=700:=by rw[hS2];exact Kg c 5 _ (by rw[hS1];exact Kg c 5 S (.inl he))
 have fr2:=a3.trans b3
 have bad:(S2.e≠0∨286<A+257∨30<B+1)→∃h' ov' S',aR AP.A 44 [.aD c.s 0] h=some (.bM [],h')∧St c S' h' ov'∧Fr c h ov h' ov'∧S'.e=700∧(700:Int)≠0:=by
  intro hb
  obtain⟨h3,f1,f2,f3⟩:=yL b2 700
  refine⟨h3,ov,v8 700 S2, ?_,f2,fr2.trans f3,by rcases he2 with q|q<;>simp [v8,q],by decide⟩
  refine tZ (fn:=AP.f44) (e:=[]) (vs:=[]) rfl rfl rfl ?_ rfl
  by_cases c1:S2.e=0
  · have c1':=uJ c1
    by_cases c2:286<A+257
    · have c2':(286:Int)<((A+257:Nat):Int):=by omega
      simp only[I]at *
      simp only[AP.f44,go_sem,a1,b1,w1,w2,gs2,c1',XS c2',f1]
    · have c2':¬(286:Int)<((A+257:Nat):Int):=by omega
      have c3':(30:Int)<((B+1:Nat):Int):=by
       rcases hb with q|q|q
       · exact absurd c1 q
       · exact absurd q c2
       · omega
      simp only[I]at *
      simp only[AP.f44,go_sem,a1,b1,w1,w2,gs2,c1',XP c2',XS c3',f1]
  · have c1':=uK c1
    simp only[I]at *
    simp only[AP.f44,go_sem,a1,b1,w1,w2,gs2,c1',f1]
 unfold A4
 by_cases hp:S.at_+10≤8* c.text.size
 · have e1 : vU c 5 S = (vP c.text S.at_ 5, { S with at_ := S.at_ + 5 }) := by rw [vU, if_pos (by omega)]
   rw[e1]at hA hS1;dsimp only at hA hS1
   have e2:vU c 5 {S with at_:=S.at_+5}=(vP c.text (S.at_+5) 5,{S with at_:=S.at_+5+5}):=by rw[vU,if_pos (by show S.at_+5+5≤_;omega)]
   rw[hS1,e2]at hB hS2;dsimp only at hB hS2
   rw[if_pos hp]
   dsimp only
   rw[←hA,←hB]
   by_cases hbig:286<A+257∨30<B+1
   · rw[if_pos hbig];exact bad (.inr hbig)
   · rw [if_neg hbig]
     have c1':(S2.e !=0)=false:=uJ (by rw[hS2];exact he)
     have c2':¬(286:Int)<((A+257:Nat):Int):=by omega
     have c3':¬(30:Int)<((B+1:Nat):Int):=by omega
     have w3:IntKind.wrap .i64 (((A+257:Nat):Int)+((B+1:Nat):Int))=((A+257+(B+1):Nat):Int):=by
      rw[show((A+257:Nat):Int)+((B+1:Nat):Int)=((A+257+(B+1):Nat):Int)by omega];exact vL (by omega)
     obtain⟨h3,S3,av,acc,l1,l2,l3,l4,l5,l6⟩:=Mh b2 (by rw[hS2];exact he) (A+257+(B+1)) (by omega) (by omega)
     have gs3:=l2.gs
     have hat2:S2.at_=S.at_+10:=by rw[hS2]
     rw[hat2]at l6
     cases hL:yq c.text (A+257+(B+1)) (S.at_+10)with
     | none =>
       rw[hL]at l6
       have c4:(S3.e !=0)=true:=uK (by rw[l6];decide)
       refine⟨h3,ov,S3, ?_,l2,fr2.trans l3,l6,by decide⟩
       refine tZ (fn:=AP.f44) (e:=[(0,.aD c.s 0),(2,I (A+257:Nat)),(4,av),(37,.bool true)]) (vs:=[]) rfl rfl rfl ?_ rfl
       simp only[I]at *
       simp only[AP.f44,go_sem,a1,b1,w1,w2,gs2,c1',XP c2',XP c3',w3,l1,gs3,c4]
     | some q =>
       obtain⟨L,p2⟩:=q
       rw[hL]at l6
       obtain⟨l6,l7,l8⟩:=l6
       subst l7
       have hrng:=GH hL
       dsimp only
       have he3:S3.e=0:=by rw[l6,hS2];exact he
       have c4:(S3.e !=0)=false:=uJ he3
       obtain⟨id,hav,hgid⟩:∃id,av=.aE id 0 (A+257+(B+1)) 1∧h3.get id=some (ints acc):=by
        rcases l4 with ⟨_,q⟩|⟨id,q1,q2,_⟩
        · have:=Yh List.length q;rw[pY,l8,XR]at this;omega
        · exact⟨id,by rw[q1,pY,l8],q2⟩
       have hil:(ints acc).length=A+257+(B+1):=by rw[pY,l8]
       have s1:=Hl (h:=h3) (k:=A+257) hgid hil (vm _) (by omega)
       have s2:=JV (h:=h3) (k:=A+257) hgid hil (by omega)
       rw[show A+257+(B+1)-(A+257)=B+1 by omega]at s2
       rw[←hav]at s1 s2
       obtain⟨la,hla⟩:∃x,x=acc.take (A+257):=⟨_,rfl⟩
       obtain⟨lb,hlb⟩:∃x,x=acc.drop (A+257):=⟨_,rfl⟩
       have hlal:la.length=A+257:=by rw[hla,Yb];omega
       have hlbl:lb.length=B+1:=by rw[hlb,List.length_drop];omega
       have ra:Rd h3 (.aE id 0 (A+257) 1) (ints la):=by
        refine⟨?_,by intro s e;cases e⟩
        simp only[aS,if_true,hgid,vi]
        rw[if_pos (by rw[hil];omega),hla];simp [ints,List.map_take];omega
       have rb:Rd h3 (.aE id (A+257) (B+1) 1) (ints lb):=by
        refine⟨?_,by intro s e;cases e⟩
        simp only[aS,if_true,hgid,vi]
        rw[if_pos (by rw[hil];omega),hlb]
        have:(ints (acc.drop (A+257))).length=B+1:=by rw[pY,←hlb,hlbl]
        rw[this,ints,ints,←List.map_drop,Yy,vD (by rw[Yu,←hlb,hlbl];omega)]
       rw[←hla,←hlb]
       have cka:=Hp h3 _ la (by omega) ra
       have ckb:=Hp h3 _ lb (by omega) rb
       have hra:yP la:=fun y hy=>hrng y (Yt (hla ▸ hy))
       have hrb:yP lb:=fun y hy=>hrng y (List.mem_of_mem_drop (hlb ▸ hy))
       have sgb:=NZ h3 _ lb (by omega) hrb rb
       have mka:=BD h3 _ la (by omega) hra ra
       have mkb:=BD h3 _ lb (by omega) hrb rb
       have hel:=BU (l:=la) (i:=256) (by omega)
       obtain⟨ad,p1,p2'⟩:=ra.elem hel
       have p3:=p2' h3 (fun _ _ q=>q)
       have p1':fM 1 (.aE id 0 (A+257) 1) (I 256)=some ad:=p1
       clear p1 p2'
       obtain⟨cb,hcb⟩:∃b:Bool,(b=true↔we la≠0∨la.getD 256 0=0∨(we lb≠0∧xL lb=false)):=⟨decide _,decide_eq_true_iff⟩
       have step:∀k,aL (aR AP.A) bq k [(0,.aD c.s 0),(2,I (A+257:Nat)),(4,av)] h3=aL (aR AP.A) bq k [(0,.aD c.s 0),(2,I (A+257:Nat)),(4,av)] h3:=fun _=>rfl
       by_cases hbad:we la≠0∨la.getD 256 0=0∨(we lb≠0∧xL lb=false)
       · rw [if_pos hbad]
         obtain⟨h4,f1,f2,f3⟩:=yL l2 700
         refine⟨h4,ov,v8 700 S3, ?_,f2,(fr2.trans l3).trans f3,by simp [v8,he3],by decide⟩
         refine tZ (fn:=AP.f44) (e:=[]) (vs:=[]) rfl rfl rfl ?_ rfl
         by_cases d1:we la=0
         · have d1':=uJ d1
           by_cases d2:la.getD 256 0=0
           · have d2':=uI d2
             simp only[I]at *
             simp only[AP.f44,go_sem,a1,b1,w1,w2,gs2,c1',XP c2',XP c3',w3,l1,gs3,c4,XU,Yf,s1,s2,cka,d1',p1',p3,d2',f1]
           · have d2':=uH d2
             obtain⟨d3,d4⟩:we lb≠0∧xL lb=false:=by
              rcases hbad with q|q|q
              · exact absurd d1 q
              · exact absurd q d2
              · exact q
             have d3':=uK d3
             rw[d4]at sgb
             simp only[I]at *
             simp only[AP.f44,go_sem,a1,b1,w1,w2,gs2,c1',XP c2',XP c3',w3,l1,gs3,c4,XU,Yf,s1,s2,cka,d1',p1',p3,d2',ckb,d3',sgb,f1]
         · have d1':=uK d1
           simp only[I]at *
           simp only[AP.f44,go_sem,a1,b1,w1,w2,gs2,c1',XP c2',XP c3',w3,l1,gs3,c4,XU,Yf,s1,s2,cka,d1',f1]
       · rw [if_neg hbad]
         have d1:we la=0:=Decidable.byContradiction fun q=>hbad (.inl q)
         have d2:la.getD 256 0≠0:=fun q=>hbad (.inr (.inl q))
         have d1':=uJ d1
         have d2':=uH d2
         obtain⟨h4,ov4,S4,q1,q2,q3,q4⟩:=KP la lb (by omega) (by omega) l2 he3
         refine⟨h4,ov4,S4, ?_,q2,(fr2.trans l3).trans q3, ?_⟩
         · refine wF (fn:=AP.f44) (e:=[]) (vs:=[]) rfl rfl rfl ?_ rfl
           by_cases d3:we lb=0
           · have d3':=uJ d3
             simp only[I]at *
             simp only[AP.f44,go_sem,a1,b1,w1,w2,gs2,c1',XP c2',XP c3',w3,l1,gs3,c4,XU,Yf,s1,s2,cka,d1',p1',p3,d2',ckb,d3',mka,mkb,q1]
           · have d3':=uK d3
             have d4:xL lb=true:=by
              cases hs:xL lb with
              |true=>rfl
              |false=>exact absurd (.inr (.inr ⟨d3,hs⟩)) hbad
             rw[d4]at sgb
             simp only[I]at *
             simp only[AP.f44,go_sem,a1,b1,w1,w2,gs2,c1',XP c2',XP c3',w3,l1,gs3,c4,XU,Yf,s1,s2,cka,d1',p1',p3,d2',ckb,d3',sgb,mka,mkb,q1]
         · have:S3.at_=p2:=by rw[l6]
           have ho:S3.out=S.out:=by rw[l6,hS2]
           rw[this,ho]at q4;exact q4
 · rw[if_neg hp]
   refine bad (.inl ?_)
   rw[hS2,hS1]
   unfold vU
   by_cases q1:S.at_+5≤8* c.text.size
   · simp only[if_pos q1];rw[if_neg (by omega)];simp [v8,he]
   · simp only[if_neg q1,v8,he,if_true];split<;>simp
def xC (t : ByteArray) (most : Int) (p : Nat) (out : List Nat) : Except Int (Bool × Nat × List Nat) :=
 if p+3≤8* t.size then
  let r:Rs:=if vP t (p+1) 2=0 then xV t most (p+3) out
   else if vP t (p+1) 2=1 then xy t most wy (List.replicate 30 5) (8* t.size+1) (p+3) out
   else if vP t (p+1) 2=2 then A4 t most (p+3) out
   else .error 700
  match r with
  | .ok q=>.ok (vP t p 1==1,q.1,q.2)
  | .error k=>.error k
 else .error 700
def Sl (r:Except Int (Bool×Nat×List Nat)) (b:Bool) (S:SS):Prop:=match r with
 | .ok q=>b=q.1∧S=⟨q.2.1,q.2.2,0⟩
 | .error k=>S.e=k∧k≠0
theorem zZ:wy.length=288:=by simp only[wy,vI,X3]
theorem Kb:yP wy:=by
 intro y hy
 simp only[wy,Ya]at hy
 rcases hy with hy|hy|hy|hy<;>(obtain⟨_,rfl⟩:=List.mem_replicate.1 hy;omega)
theorem LY:yP (List.replicate 30 5):=by
 intro y hy
 obtain⟨_,rfl⟩:=List.mem_replicate.1 hy;omega
theorem Ow {c : SC} {S : SS} {h : H} {ov : AV} (st : St c S h ov) (he : S.e = 0) :
 ∃h' ov' S' b,aR AP.A 15 [.aD c.s 0] h=some (.bool b,h')∧St c S' h' ov'∧Fr c h ov h' ov'∧Sl (xC c.text c.most S.at_ S.out) b S':=by
 obtain⟨h1,a1,a2,a3⟩:=AH st 1 1 rfl (by omega)
 obtain⟨h2,b1,b2,b3⟩:=AH a2 2 2 rfl (by omega)
 obtain⟨A,hA⟩:∃n,n=(vU c 1 S).1:=⟨_,rfl⟩
 obtain⟨S1,hS1⟩:∃n,n=(vU c 1 S).2:=⟨_,rfl⟩
 rw[←hA]at a1;rw[←hS1]at a2 b1 b2
 obtain⟨B,hB⟩:∃n,n=(vU c 2 S1).1:=⟨_,rfl⟩
 obtain⟨S2,hS2⟩:∃n,n=(vU c 2 S1).2:=⟨_,rfl⟩
 rw[←hB]at b1;rw[←hS2]at b2
 have gs2:=b2.gs
 have fr2:=a3.trans b3
 obtain⟨lb,hlb⟩:∃b:Bool,b=((A:Int)==1):=⟨_,rfl⟩
 unfold xC
 by_cases hp:S.at_+3≤8* c.text.size
 · rw [if_pos hp]
   have e1:vU c 1 S=(vP c.text S.at_ 1,{S with at_:=S.at_+1}):=by rw[vU,if_pos (by omega)]
   rw[e1]at hA hS1;dsimp only at hA hS1
   have e2:vU c 2 {S with at_:=S.at_+1}=(vP c.text (S.at_+1) 2,{S with at_:=S.at_+1+2}):=by rw[vU,if_pos (by show S.at_+1+2≤_;omega)]
   rw[hS1,e2]at hB hS2;dsimp only at hB hS2
   have he2:S2.e=0:=by rw[hS2];exact he
   have hat:S2.at_=S.at_+3:=by rw[hS2]
   have hout:S2.out=S.out:=by rw[hS2]
   dsimp only
   rw[←hA,←hB]
   have hlb2:lb=(A==1):=by
    rw[hlb];by_cases q:A=1
    · subst q;rfl
    · rw[uH (by omega)];symm;simp [q]
   have wrap:∀(r:Rs) (h':H) (ov':AV) (S':SS),aR AP.A 15 [.aD c.s 0] h=some (.bool lb,h')→St c S' h' ov'→Fr c h2 ov h' ov'→Fin r S'→∃h' ov' S' b,aR AP.A 15 [.aD c.s 0] h=some (.bool b,h')∧St c S' h' ov'∧Fr c h ov h' ov'∧Sl (match r with| .ok q=>.ok (A==1,q.1,q.2)| .error k=>.error k) b S':=by
    intro r h' ov' S' q1 q2 q3 q4
    refine⟨h',ov',S',lb,q1,q2,fr2.trans q3, ?_⟩
    cases r with
    |ok q=>exact⟨hlb2,q4⟩
    |error k=>exact q4
   have c0:(S2.e==0)=true:=uI he2
   by_cases d0:B=0
   · rw[if_pos d0]
     obtain⟨h',ov',S',q1,q2,q3,q4⟩:=N9 b2 he2
     rw[hat,hout]at q4
     refine wrap _ h' ov' S' ?_ q2 q3 q4
     have d0':((B:Int)==0)=true:=uI (by omega)
     refine tZ (fn:=AP.f15) (e:=[(2,.bool lb)]) rfl rfl rfl ?_ rfl
     simp only[I]at *
     simp only[AP.f15,go_sem,a1,b1,←hlb,d0',gs2,c0,q1]
   · rw [if_neg d0]
     have d0':((B:Int)==0)=false:=uH (by omega)
     by_cases d1:B=1
     · rw[if_pos d1]
       have d1':((B:Int)==1)=true:=uI (by omega)
       have f1:=K0 h2
       have m1:=BD h2 (wP wy) wy (by rw[zZ];omega) Kb (yu _ _)
       have al:=b2.alloc [I 5]
       have r1:=Ae (h2.alloc [I 5]) (.aE h2.next 0 1 1) 5 30 (by omega) (BW _ _)
       have r1':aR AP.A 43 [.aE h2.next 0 1 1,I 30] (h2.alloc [I 5])=some (wP (List.replicate 30 5),h2.alloc [I 5]):=by
        rw[wP,X3];exact r1
       have m2:=BD (h2.alloc [I 5]) (wP (List.replicate 30 5)) (List.replicate 30 5) (by rw[X3];omega) LY (yu _ _)
       obtain⟨h',ov',S',q1,q2,q3,q4⟩:=KP wy (List.replicate 30 5) (by rw[zZ];omega) (by rw[X3];omega) al.1 he2
       rw[hat,hout]at q4
       refine wrap _ h' ov' S' ?_ q2 (al.2.trans q3) q4
       refine tZ (fn:=AP.f15) (e:=[(2,.bool lb)]) rfl rfl rfl ?_ rfl
       clear r1
       generalize wE wy=bf at *
       generalize wE (List.replicate 30 5)=bd at *
       generalize wP wy=vf at *
       generalize wP (List.replicate 30 5)=vd at *
       simp only[I]at *
       simp only[AP.f15,go_sem,a1,b1,←hlb,d0',d1',f1,m1,Sr,I,r1',m2,q1]
     · rw[if_neg d1]
       have d1':((B:Int)==1)=false:=uH (by omega)
       by_cases d2:B=2
       · rw[if_pos d2]
         have d2':((B:Int)==2)=true:=uI (by omega)
         obtain⟨h',ov',S',q1,q2,q3,q4⟩:=LW b2 he2
         rw[hat,hout]at q4
         refine wrap _ h' ov' S' ?_ q2 q3 q4
         refine tZ (fn:=AP.f15) (e:=[(2,.bool lb)]) rfl rfl rfl ?_ rfl
         simp only[I]at *
         simp only[AP.f15,go_sem,a1,b1,←hlb,d0',d1',d2',q1]
       · rw[if_neg d2]
         have d2':((B:Int)==2)=false:=uH (by omega)
         obtain⟨h',q1,q2,q3⟩:=yL b2 700
         refine wrap (.error 700) h' ov _ ?_ q2 q3 ⟨by simp [v8,he2],by decide⟩
         refine tZ (fn:=AP.f15) (e:=[(2,.bool lb)]) rfl rfl rfl ?_ rfl
         simp only[I]at *
         simp only[AP.f15,go_sem,a1,b1,←hlb,d0',d1',d2',q1]
 · rw [if_neg hp]
   have hB0:B=0∧S2.e=700:=by
    by_cases q1:S.at_+1≤8* c.text.size
    · have e1:vU c 1 S=(vP c.text S.at_ 1,{S with at_:=S.at_+1}):=by rw[vU,if_pos q1]
      rw[e1]at hS1;dsimp only at hS1
      have e2:vU c 2 S1=(0,{S1 with e:=700}):=by rw[vU,if_neg (by rw[hS1];show¬S.at_+1+2≤_;omega),v8,if_pos (by rw[hS1];exact he)]
      rw[e2]at hB hS2
      exact⟨hB,by rw[hS2]⟩
    · have e1:vU c 1 S=(0,{S with e:=700}):=by rw[vU,if_neg q1,v8,if_pos he]
      rw[e1]at hS1;dsimp only at hS1
      have e2:vU c 2 S1=(0,S1):=by rw[vU,if_neg (by rw[hS1];show¬S.at_+2≤_;omega),v8,if_neg (by rw[hS1];simp)]
      rw[e2]at hB hS2
      exact⟨hB,by rw[hS2,hS1]⟩
   have d0':((B:Int)==0)=true:=uI (by omega)
   have c0:(S2.e==0)=false:=uH (by rw[hB0.2];decide)
   refine⟨h2,ov,S2,lb, ?_,b2,fr2,hB0.2,by decide⟩
   refine tZ (fn:=AP.f15) (e:=[(2,.bool lb)]) rfl rfl rfl ?_ rfl
   simp only[I]at *
   simp only[AP.f15,go_sem,a1,b1,←hlb,d0',gs2,c0]
def wY (t : ByteArray) (most : Int) : Nat → Nat → List Nat → Rs
 |0,_,_=>.error 700
 | f + 1, p, out => match xC t most p out with
   | .error k=>.error k
   | .ok (last,p2,o)=>if last then .ok (p2,o)else wY t most f p2 o
theorem I0 {c:SC} {S:SS} {h:H} {ov:AV} (st:St c S h ov) (b:Bool) (hs:b=true∨S.e≠0):
 ∃e',Lp AP.A [7,8] AP.f7L0 [(7,.aD c.s 0),(8,.bool b)] h=some (.exit 0,e',h)∧look e' 7=.aD c.s 0:=by
 have gs:=st.gs
 refine⟨[(7,.aD c.s 0),(28,.bool false)],tM ?_,rfl⟩
 cases b with
 | true =>
   simp only[I]at *
   simp only[AP.f7L0,go_sem]
 | false =>
   have c2:(S.e==0)=false:=uH (by rcases hs with q|q;cases q;exact q)
   simp only[I]at *
   simp only[AP.f7L0,go_sem,gs,c2]
theorem zW {t:ByteArray} {most:Int}:∀{n p:Nat} {out:List Nat} {p2:Nat} {o:List Nat},xp t most n p out=.ok (p2,o)→p≤p2
 |0,p,out,p2,o,h=>by rw[xp]at h;cases h;exact vm _
 | n + 1, p, out, p2, o, h => by
   rw[xp]at h
   split at h
   · split at h
     · cases h
     · have:=zW h;omega
   · cases h
theorem yh {t : ByteArray} {most : Int} {ll dl : List Int} : ∀ {k p : Nat} {out : List Nat} {p2 : Nat} {o : List Nat}, xy t most ll dl k p out = .ok (p2, o) → p < p2
 |0,_,_,_,_,h=>by cases h
 | k + 1, p, out, p2, o, h => by
   rw[xy]at h
   split at h
   · cases h
   · rename_i y p1 hs
     have sb:=yf hs
     split at h
     · split at h
       · cases h
       · have:=yh h;omega
     · split at h
       · cases h;omega
       · split at h
         · rename_i p3 o3 hc
           have:=EP hc
           have:=yh h;omega
         · cases h
theorem zy {t : ByteArray} {cl : List Int} {many : Nat} : ∀ {f : Nat} {acc : List Int} {p : Nat} {L : List Int} {p2 : Nat}, wI t cl many f acc p = some (L, p2) → p ≤ p2
 |0,_,_,_,_,h=>by cases h
 | f + 1, acc, p, L, p2, h => by
   rw[wI]at h
   split at h
   · split at h
     · cases h
     · rename_i y p1 hs
       have sb:=yf hs
       split at h
       · cases h
       · rename_i n times q hag
         have:=zy h
         have:p1≤q:=by
          unfold wR at hag
          repeat' split at hag
          all_goals first
           |(cases hag;done)
           |(have:=Yh (fun o=>o.map (·.2.2)) hag;simp only[XU,vb]at this;omega)
         omega
   · split at h
     · cases h
     · have:=Yh (fun o=>o.map (·.2)) h
       simp only[XU,vb]at this;omega
theorem zP {t : ByteArray} {most : Int} {p : Nat} {out : List Nat} {q : Bool × Nat × List Nat} (h : xC t most p out = .ok q) : p < q.2.1 := by
 unfold xC at h
 split at h
 · dsimp only at h
   have key:∀{r:Rs},(match r with| .ok q=>Except.ok (vP t p 1==1,q.1,q.2)| .error k=>.error k)=Except.ok (ε:=Int) q→∃z,r=.ok z∧z.1=q.2.1:=by
    intro r h
    cases r with
    |ok z=>cases h;exact⟨z,rfl,rfl⟩
    |error k=>cases h
   obtain⟨z,h1,h2⟩:=key h
   rw[←h2]
   split at h1
   · unfold xV at h1
     dsimp only at h1
     split at h1
     · split at h1
       · have:=zW h1;omega
       · cases h1
     · cases h1
   · split at h1
     · have:=yh h1;omega
     · split at h1
       · unfold A4 at h1
         split at h1
         · dsimp only at h1
           split at h1
           · cases h1
           · split at h1
             · cases h1
             · rename_i L p2 hl
               split at h1
               · cases h1
               · have:=yh h1
                 have:p+3≤p2:=by
                  unfold yq at hl
                  split at hl
                  · dsimp only at hl
                    split at hl
                    · split at hl
                      · have:=zy hl;omega
                      · cases hl
                    · cases hl
                  · cases hl
                 omega
         · cases h1
       · cases h1
 · cases h
theorem IZ {c : SC} : ∀ (f : Nat) (S : SS) (h : H) (ov : AV), St c S h ov → S.e = 0 → 8 * c.text.size < S.at_ + f →
 ∃e' h' ov' S',Lp AP.A [7,8] AP.f7L0 [(7,.aD c.s 0),(8,.bool false)] h=some (.exit 0,e',h')∧look e' 7=.aD c.s 0∧St c S' h' ov'∧Fr c h ov h' ov'∧Fin (wY c.text c.most f S.at_ S.out) S'
 |0,S,h,ov,st,he,hk=>by have:=st.xY;omega
 | f + 1, S, h, ov, st, he, hk => by
   have gs:=st.gs
   obtain⟨h1,ov1,S1,b,q1,q2,q3,q4⟩:=Ow st he
   have step:aL (aR AP.A) bq AP.f7L0 (ay [(7,.aD c.s 0),(8,.bool false)] [7,8]) h=some (.normal,[(7,.aD c.s 0),(8,.bool b)],h1):=by
    simp only[I]at *
    simp only[AP.f7L0,go_sem,gs,he,q1]
   rw[wY]
   cases hb:xC c.text c.most S.at_ S.out with
   | error k =>
     rw[hb]at q4
     obtain⟨e',r1,r2⟩:=I0 q2 b (.inr (by rw[q4.1];exact q4.2))
     exact⟨e',h1,ov1,S1,tN step r1,r2,q2,q3,q4⟩
   | ok z =>
     obtain⟨last,p2,o⟩:=z
     rw[hb]at q4
     obtain⟨q5,q6⟩:=q4
     dsimp only at q5 q6 ⊢
     subst q5
     cases b with
     | true =>
       obtain⟨e',r1,r2⟩:=I0 q2 true (.inl rfl)
       exact⟨e',h1,ov1,S1,tN step r1,r2,q2,q3,q6⟩
     | false =>
       have hge:=zP hb
       dsimp only at hge
       subst q6
       obtain⟨e',h',ov',S',r1,r2,r3,r4,r5⟩:=IZ f _ h1 ov1 q2 rfl (by dsimp only;omega)
       exact⟨e',h',ov',S',tN step r1,r2,r3,q3.trans r4,r5⟩
def bytesOf (l:List Nat):ByteArray:=⟨(l.map UInt8.ofNat).toArray⟩
def wT (t:ByteArray) (most:Int):Except Int (List Nat×Nat):=
 if most<0∨8192<most then .error 700 else
 match wY t most (8* t.size+1) 0 []with
 | .ok q=>.ok (q.2,(q.1+7)/8)
 | .error k=>.error k
def Mc (r:Except Int (List Nat×Nat)):AV:=match r with
 | .ok q=>.bM [.str (bytesOf q.1),I q.2,I 0]
 | .error k=>.bM [.str ⟨#[]⟩,I 0,I k]
theorem Hm:∀l:List Nat,kP (yM l)=some (l.map UInt8.ofNat)
 |[]=>rfl
 | x :: l => by
   have:yM (x::l)=.int .u8 x::yM l:=rfl
   rw[this,kP,Hm l];simp
theorem KK {h:H} {v:AV} {l:List Nat} (o:nJ h v (yM l)):uj h v (aS h 1 v)=some (.str (bytesOf l),h):=by
 rcases o with ⟨rfl,q⟩|⟨id,rfl,q,_⟩
 · have:l=[]:=by cases l with|nil=>rfl|cons _ _=>cases q
   subst this;rfl
 · simp only[aS,if_true,q,vi]
   rw[if_pos (by omega)]
   have:((yM l).drop 0).take ((yM l).length* 1)=yM l:=by rw[X9,Yy,List.take_length]
   rw[this]
   simp only[uj,vi,Hm];rfl
theorem Md (h : H) (hf : h.floor ≤ h.next) (t : ByteArray) (most : Int) (hs : t.size < 1125899906842624) : aR AP.A 7 [.str t, I most] h = some (Mc (wT t most), h) := by
 unfold wT
 by_cases c1:most<0
 · rw[if_pos (.inl c1)]
   refine uz (fn:=AP.f7) (h2:=h.dN) (e:=[(4,.str ⟨#[]⟩),(5,I 0),(6,I 700)]) rfl rfl rfl ?_ rfl rfl
   simp only[I]at *
   simp only[AP.f7,go_sem,XS c1]
 by_cases c2:8192<most
 · rw[if_pos (.inr c2)]
   refine uz (fn:=AP.f7) (h2:=h.dN) (e:=[(4,.str ⟨#[]⟩),(5,I 0),(6,I 700)]) rfl rfl rfl ?_ rfl rfl
   simp only[I]at *
   simp only[AP.f7,go_sem,XP c1,XS c2]
 rw[if_neg (by omega)]
 obtain⟨h1,hh1⟩:∃g,g=h.dN.alloc [.str t,I 0]:=⟨_,rfl⟩
 obtain⟨h2,hh2⟩:∃g,g=h1.alloc [.aD h.next 0,.aP,I most,I 0]:=⟨_,rfl⟩
 have of1:=We h.dN t
 rw[←hh1]at of1
 have n1:h1.next=h.next+1:=by rw[hh1];simp
 have st:St ⟨h.next+1,h.next,t,most⟩ ⟨0,[],0⟩ h2 .aP:=by
  refine⟨?_, ?_,.inl ⟨rfl,rfl⟩,by simp, ?_, ?_,by simp [AV.id?],by simp [AV.id?], ?_,hs,by simp,by simp;omega,by show most≤900000;omega⟩
  · rw[hh2,H.aW,if_pos n1.symm]
  · rw[hh2,H.aW,if_neg (by show h.next≠h1.next;omega),hh1,H.aW,if_pos (show h.next=h.dN.next from rfl)];rfl
  · rw[hh2,hh1];simp
  · rw[hh2,hh1];simp
  · rw[hh2,hh1];simp;omega
 obtain⟨e',h3,ov,S,q1,q2,q3,q4,q5⟩:=IZ (8* t.size+1) ⟨0,[],0⟩ h2 .aP st rfl (by show 8* t.size<0+(8* t.size+1);omega)
 have gs:=q3.gs
 have bx:∀e:Env,look e 18=.agg [.aD h.next 0,.aP,.int .i64 most,.int .i64 0]→aY e (.box 4 (.t 18))=some ([.aD h.next 0,.aP,.int .i64 most,.int .i64 0],fun i=>.aD i 0):=by
  intro e q;simp only[aY,sI,q];rfl
 have fl:dO [.cn,.aP,.int .i64 0,.int .i64 0] [(0,1,.aD h.next 0),(2,1,.int .i64 most)]=some [.aD h.next 0,.aP,.int .i64 most,.int .i64 0]:=rfl
 have hn:h.dN.next=h.next:=rfl
 dsimp only at q5
 cases hi:wY t most (8* t.size+1) 0 []with
 | error k =>
   rw[hi]at q5
   have c3:(S.e !=0)=true:=uK (by rw[q5.1];exact q5.2)
   have hk:S.e=k:=q5.1
   refine uz (fn:=AP.f7) (h2:=h3) (e:=[(4,.str ⟨#[]⟩),(5,I 0),(6,I k)]) rfl rfl rfl ?_ rfl rfl
   simp only[I]at *
   simp only[AP.f7,go_sem,XP c1,XP c2,of1,hn,XX,Yk,fl]
   rw[bx _ rfl]
   rw[hk]at gs c3
   simp only[go_sem,←hh2,n1,sG,q1,q2,gs,c3]
 | ok z =>
   obtain⟨p,o⟩:=z
   rw[hi]at q5
   simp only[Fin]at q5
   have c3:(S.e !=0)=false:=uJ (by rw[q5])
   obtain⟨h4,a1,a2,a3⟩:=q3.align
   have gs4:=a2.gs
   have gr4:=a2.gr
   have at4:=VD h4 h.next t _ gr4
   have hb:=KK a2.own
   subst q5
   dsimp only at gs4 gr4 at4 hb a2 gs c3
   have hle:=a2.xY
   dsimp only at hle
   have qd:bj .quo (.int .i64 (((p+7)/8* 8:Nat):Int)) (.int .i64 8)=some (.int .i64 (((p+7)/8:Nat):Int)):=by
    rw[sg _ _ _ (by omega),show(8:Int)=((8:Nat):Int)from rfl,yw,Nat.mul_div_cancel _ (by omega),vL (by omega)]
   refine uz (fn:=AP.f7) (h2:=h4) (e:=[(4,.str (bytesOf o)),(5,I ((p+7)/8:Nat)),(6,I 0)]) rfl rfl rfl ?_ rfl rfl
   generalize (p+7)/8* 8=P8 at *
   generalize (p+7)/8=P at *
   simp only[I]at *
   simp only[AP.f7,go_sem,XP c1,XP c2,of1,hn,XX,Yk,fl]
   rw[bx _ rfl]
   simp only[go_sem,←hh2,n1,sG,q1,q2,gs,c3,a1]
   rw[Hi (e':=[(6,.int .i64 0),(5,.int .i64 P),(4,.str (bytesOf o)),(55,.int .i64 P),(54,.int .i64 P8),(53,.aD h.next 0),(52,.aD (h.next+1) 0),(51,.aD (h.next+1) 0),(50,.aD (h.next+1) 0),(49,.str (bytesOf o)),(48,ov),(47,.aD (h.next+1) 1),(46,.aD (h.next+1) 0),(45,.aD (h.next+1) 0),(7,.aD (h.next+1) 0)]) (h':=h4) (gs:=[h4,h4])]
   · simp only[go_sem]
   · simp only[AN,DI,DA,DM,DL,bU.aO,go_sem,gs4,hb,at4,qd]
   · refine AR (fun k hk=> ?_) (AR (fun k hk=> ?_) rfl)
     · obtain rfl:k=1:=by simpa using hk
       refine AQ (o:=⟨some 48,.load false 1 (.t 47),none⟩) (g:=h4) (h':=h4) (d:=48) (u:=ov) rfl rfl rfl rfl ?_ ?_
       · simp only[aj,go_sem,gs4]
       · simp only[go_sem]
         rcases a2.own with ⟨rfl,_⟩|⟨id,rfl,_⟩
         · rfl
         · exact CL _ _ _ _
     · obtain rfl:k=1:=by simpa using hk
       refine AQ (o:=⟨some 49,.kP (.t 48),none⟩) (g:=h4) (h':=h4) (d:=49) (u:=.str (bytesOf o)) rfl rfl rfl rfl ?_ ?_
       · simp only[aj,go_sem,hb]
       · simp only[go_sem,En]
theorem Po (h:H) (n:Int):aR AP.A 9 [I n] h=some (I n,h):=by
 refine uz (fn:=AP.f9) (h2:=h.dN) (e:=[(2,I n)]) rfl rfl rfl ?_ rfl rfl
 simp only[I]at *
 simp only[AP.f9,go_sem]
theorem Ik {a b:Nat} (ha:a<256) (hb:b<256):bits .or .u8 (a:Int) (b:Int)=((a|||b:Nat):Int):=by
 have h3:a|||b<2^8:=Nat.or_lt_two_pow (by simpa using ha) (by simpa using hb)
 show IntKind.wrap .u8 (((BitVec.ofInt 8 (a:Int)|||BitVec.ofInt 8 (b:Int)).toNat:Nat):Int)=_
 rw[BitVec.toNat_or,ze 8 a (by omega),ze 8 b (by omega)]
 exact wrap_u8 (by simpa using h3)
def wZ (out:List Nat) (i:Nat) (b:Nat):List Nat:=
 let o:=if i%8=0 then out++[0]else out
 o.set (i/8) (o.getD (i/8) 0|||b* 2^(i%8))
def yk:List Nat→Nat→List Nat→List Nat
 |[],_,out=>out
 |b::r,i,out=>yk r (i+1) (wZ out i b)
theorem Ea {out:List Nat} {i b:Nat} (h:out.length=(i+7)/8):(wZ out i b).length=(i+1+7)/8:=by
 unfold wZ
 dsimp only
 rw[X6]
 split
 · rw[vI,h];simp;omega
 · rw[h];omega
theorem BG {out:List Nat} {i b:Nat} (hb:b≤1) (h:JR out):JR (wZ out i b):=by
 have h1:JR (if i%8=0 then out++[0]else out):=by
  split
  · intro x hx
    rcases Ya.1 hx with q|q
    · exact h x q
    · simp at q;omega
  · exact h
 intro x hx
 unfold wZ at hx
 dsimp only at hx
 rcases Yd hx with q|q
 · exact h1 x q
 · subst q
   have h2:(if i%8=0 then out++[0]else out).getD (i/8) 0<2^8:=by
    rw[XN]
    cases hg:(if i%8=0 then out++[0]else out)[i/8]? with
    |none=>simp
    |some y=>simpa using h1 y (vq hg)
   have h3:b* 2^(i%8)<2^8:=by
    have:2^(i%8)≤2^7:=XY (by omega) (by omega)
    have:b* 2^(i%8)≤1* 2^7:=Yx hb this
    omega
   simpa using Nat.or_lt_two_pow h2 h3
theorem nJ.set {h:H} {v:AV} {cs:List AV} (o:nJ h v cs) {i:Nat} (hi:i<cs.length) (x:AV):∃id,v=.aE id 0 cs.length 1∧h.get id=some cs∧h.floor≤id∧nJ (h.set id (cs.set i x)) v (cs.set i x):=by
 rcases o with ⟨rfl,rfl⟩|⟨id,rfl,h1,h2,h3⟩
 · simp at hi
 · exact⟨id,rfl,h1,h2,.inr ⟨id,by simp,by rw[H.dp,if_pos rfl,h1];rfl,by simpa using h2,by intro e;apply h3;have:=Yh List.length e;simpa using this⟩⟩
theorem H9 {x y:ByteArray} (h:x.size+y.size≤9223372036854775807):bj .add (.str x) (.str y)=some (.str (x++y)):=by
 simp only[bj,jQ,if_pos h]
structure Vy (a t:ByteArray):Prop where
 sz:a.size≤t.size
 bit:∀i,i<8* a.size→xA a i=xA t i
theorem Vy.val {a t:ByteArray} (h:Vy a t) (p:Nat):∀n,p+n≤8* a.size→vP a p n=vP t p n
 |0,_=>rfl
 |n+1,hn=>by rw[vP,vP,h.val p n (by omega),h.bit (p+n) (by omega)]
section
variable {a t:ByteArray} (h:Vy a t)
include h
theorem B3 {l : List Int} : ∀ {k n v p : Nat} {y : Int} {p2 : Nat}, xX t l k n v p = some (y, p2) → xX a l k n v p = if p2 ≤ 8 * a.size then some (y, p2) else none
 |0,_,_,_,_,_,hs=>by cases hs
 | k + 1, n, v, p, y, p2, hs => by
   have hb:=yf hs
   rw[xX]at hs ⊢
   split at hs
   · by_cases hp:p+1≤8* a.size
     · rw[if_pos hp,h.val p 1 hp]
       split at hs
       · rename_i hf
         obtain⟨rfl,rfl⟩:=u9 (u6 hs)
         rw[if_pos hp]
       · exact B3 hs
     · rw[if_neg hp,if_neg (by omega)]
   · cases hs
theorem Ia {y : Int} {acc : List Int} {p : Nat} {n : Int} {times p2 : Nat} (hs : wR t y acc p = some (n, times, p2)) (hp : p ≤ 8 * a.size) : wR a y acc p = if p2 ≤ 8 * a.size then some (n, times, p2) else none := by
 have key:∀(k:Nat) (f:Nat→Int×Nat),(if p+k≤8* t.size then some ((f (vP t p k)).1,(f (vP t p k)).2,p+k)else none)=some (n,times,p2)→(if p+k≤8* a.size then some ((f (vP a p k)).1,(f (vP a p k)).2,p+k)else none)=if p2≤8* a.size then some (n,times,p2)else none:=by
  intro k f hk
  split at hk
  · have h2:p+k=p2:=by have:=Yh (fun o=>o.map (·.2.2)) hk;simpa using this
    by_cases hpk:p+k≤8* a.size
    · rw[if_pos hpk,h.val p k hpk,if_pos (by omega)];exact hk
    · rw[if_neg hpk,if_neg (by omega)]
  · cases hk
 unfold wR at hs ⊢
 by_cases h16:y=16
 · rw[if_pos h16]at hs ⊢
   by_cases hn:acc=[]
   · rw[if_pos hn]at hs;cases hs
   · rw[if_neg hn]at hs ⊢
     exact key 2 (fun v=>(acc.getD (acc.length-1) 0,3+v)) hs
 · rw [if_neg h16] at hs ⊢
   by_cases h17:y=17
   · rw[if_pos h17]at hs ⊢
     exact key 3 (fun v=>(0,3+v)) hs
   · rw[if_neg h17]at hs ⊢
     by_cases h18:y=18
     · rw[if_pos h18]at hs ⊢
       exact key 7 (fun v=>(0,11+v)) hs
     · rw[if_neg h18]at hs ⊢
       have h2:p=p2:=by have:=Yh (fun o=>o.map (·.2.2)) hs;simpa using this
       rw[if_pos (by omega)];exact hs
omit h in
theorem LH {y:Int} {acc:List Int} {p:Nat} {n:Int} {times p2:Nat} (hs:wR t y acc p=some (n,times,p2)):p≤p2:=by
 unfold wR at hs
 repeat' split at hs
 all_goals first
  |(cases hs;done)
  |(have:=Yh (fun o=>o.map (·.2.2)) hs;simp only[XU,vb]at this;omega)
theorem B8 {cl : List Int} {many : Nat} : ∀ {f f' : Nat} {acc : List Int} {p : Nat} {L : List Int} {p2 : Nat}, wI t cl many f acc p = some (L, p2) → 8 * a.size < p + f' → p ≤ 8 * a.size → wI a cl many f' acc p = if p2 ≤ 8 * a.size then some (L, p2) else none
 |0,_,_,_,_,_,hs,_,_=>by cases hs
 | f + 1, f', acc, p, L, p2, hs, hf, hp => by
   obtain⟨g,rfl⟩:∃g,f'=g+1:=⟨f'-1,by omega⟩
   rw[wI]at hs ⊢
   by_cases hlt:acc.length<many
   · rw [if_pos hlt] at hs ⊢
     cases hz:xX t cl 15 1 0 p with
     |none=>rw[hz]at hs;cases hs
     | some q =>
       obtain⟨y,p1⟩:=q
       rw[hz]at hs
       have hb:=yf hz
       rw[B3 h hz]
       cases hag:wR t y acc p1 with
       |none=>dsimp only at hs;rw[hag]at hs;cases hs
       | some r =>
         obtain⟨n,times,p3⟩:=r
         dsimp only at hs
         rw[hag]at hs
         dsimp only at hs
         have hge:=LH hag
         have hge2:=zy hs
         by_cases hp1:p1≤8* a.size
         · rw[if_pos hp1]
           dsimp only
           rw[Ia h hag hp1]
           by_cases hp3:p3≤8* a.size
           · rw[if_pos hp3]
             exact B8 hs (by omega) hp3
           · rw[if_neg hp3,if_neg (by omega)]
         · rw[if_neg hp1,if_neg (by omega)]
   · rw[if_neg hlt]at hs ⊢
     by_cases hg:many<acc.length
     · rw[if_pos hg]at hs;cases hs
     · rw[if_neg hg]at hs ⊢
       obtain⟨rfl,rfl⟩:=u9 (u6 hs)
       rw[if_pos hp]
theorem Jo:∀(r:List Int) (p:Nat) (o:List Int),p+3* r.length≤8* a.size→B4 a r p o=B4 t r p o
 |[],_,_,_=>rfl
 | s :: r, p, o, hp => by
   rw[XO]at hp
   rw[B4,B4,h.val p 3 (by omega),Jo r (p+3) _ (by omega)]
omit h in
theorem Kr (k:Nat) (hk:k≤19):(vQ.take k).length=k:=by rw[Yb];show min k 19=k;omega
theorem Kk {many p : Nat} {L : List Int} {p2 : Nat} (hs : yq t many p = some (L, p2)) : yq a many p = if p2 ≤ 8 * a.size then some (L, p2) else none := by
 unfold yq at hs ⊢
 dsimp only at hs ⊢
 have hv:=wQ t p 4
 split at hs
 · split at hs
   · split at hs
     · rename_i h1 h2 h3
       have hge:=zy hs
       by_cases hp:p+4≤8* a.size
       · rw[if_pos hp,h.val p 4 hp]
         by_cases hp2:p+4+3* (vP t p 4+4)≤8* a.size
         · rw[if_pos hp2,Jo h _ _ _ (by rw[Kr _ (by omega)];omega),if_pos h3]
           exact B8 h hs (by omega) hp2
         · rw[if_neg hp2,if_neg (by omega)]
       · rw[if_neg hp,if_neg (by omega)]
     · cases hs
   · cases hs
 · cases hs
theorem Eg {most most' : Int} (hm : most ≤ most') : ∀ {n p : Nat} {out : List Nat} {p2 : Nat} {o : List Nat}, xp t most n p out = .ok (p2, o) → p ≤ 8 * a.size → xp a most' n p out = if p2 ≤ 8 * a.size then .ok (p2, o) else .error 700
 | 0, p, out, p2, o, hs, hp => by
   rw[xp]at hs ⊢
   cases hs
   rw[if_pos hp]
 | n + 1, p, out, p2, o, hs, hp => by
   rw[xp]at hs ⊢
   split at hs
   · split at hs
     · cases hs
     · have hge:=zW hs
       by_cases hp8:p+8≤8* a.size
       · rw[if_pos hp8,if_neg (by omega),h.val p 8 hp8]
         exact Eg hm hs hp8
       · rw[if_neg hp8,if_neg (by omega)]
   · cases hs
theorem HW {most most' : Int} (hm : most ≤ most') {p : Nat} {out : List Nat} {p2 : Nat} {o : List Nat} (hs : xV t most p out = .ok (p2, o)) : xV a most' p out = if p2 ≤ 8 * a.size then .ok (p2, o) else .error 700 := by
 unfold xV at hs ⊢
 dsimp only at hs ⊢
 generalize (p+7)/8* 8=q at *
 split at hs
 · split at hs
   · rename_i h1 h2
     have hge:=zW hs
     by_cases hp:q+32≤8* a.size
     · rw[if_pos hp,h.val q 16 (by omega),h.val (q+16) 16 (by omega),if_pos h2]
       exact Eg h hm hs hp
     · rw[if_neg hp,if_neg (by omega)]
   · cases hs
 · cases hs
omit h in
theorem ER {most most':Int} (hm:most≤most') {d:Nat}:∀{n:Nat} {out o:List Nat},ya most d n out=.ok o→ya most' d n out=.ok o
 |0,out,o,hs=>hs
 | n + 1, out, o, hs => by
   rw[ya]at hs ⊢
   split at hs
   · cases hs
   · rw[if_neg (by omega)];exact ER hm hs
theorem JX {most most' : Int} (hm : most ≤ most') {dl : List Int} {y p : Nat} {out : List Nat} {p2 : Nat} {o : List Nat} (hs : yW t most dl y p out = .ok (p2, o)) : yW a most' dl y p out = if p2 ≤ 8 * a.size then .ok (p2, o) else .error 700 := by
 unfold yW at hs ⊢
 cases hl:lenOf y with
 |none=>rw[hl]at hs;cases hs
 | some le =>
   obtain⟨least,extra⟩:=le
   rw[hl]at hs
   dsimp only at hs ⊢
   split at hs
   · cases hz : xX t dl 15 1 0 (p + extra) with
     |none=>rw[hz]at hs;cases hs
     | some q =>
       obtain⟨z,p3⟩:=q
       rw[hz]at hs
       have hb:=yf hz
       cases hd:wu z.toNat with
       |none=>dsimp only at hs;rw[hd]at hs;cases hs
       | some lx =>
         obtain⟨ld,xd⟩:=lx
         dsimp only at hs
         rw[hd]at hs
         dsimp only at hs
         split at hs
         · rename_i h1 h2
           cases hc:ya most (ld+vP t p3 xd) (least+vP t p extra) out with
           |error k=>rw[hc]at hs;cases hs
           | ok o2 =>
             rw[hc]at hs
             dsimp only at hs
             obtain⟨rfl,rfl⟩:p3+xd=p2∧o2=o:=by cases hs;exact⟨rfl,rfl⟩
             by_cases hp:p+extra≤8* a.size
             · rw[if_pos hp,B3 h hz]
               by_cases hp3:p3≤8* a.size
               · rw[if_pos hp3]
                 dsimp only
                 rw[hd]
                 dsimp only
                 by_cases hp4:p3+xd≤8* a.size
                 · rw[h.val p3 xd hp4,if_pos ⟨hp4,h2.2⟩,h.val p extra hp,ER hm hc,if_pos hp4]
                 · rw[if_neg (fun q=>hp4 q.1),if_neg hp4]
               · rw[if_neg hp3,if_neg (by omega)]
             · rw[if_neg hp,if_neg (by omega)]
         · cases hs
   · cases hs
theorem Aq {most most' : Int} (hm : most ≤ most') {ll dl : List Int} : ∀ {k k' p : Nat} {out : List Nat} {p2 : Nat} {o : List Nat}, xy t most ll dl k p out = .ok (p2, o) → 8 * a.size < p + k' → p ≤ 8 * a.size → xy a most' ll dl k' p out = if p2 ≤ 8 * a.size then .ok (p2, o) else .error 700
 |0,_,_,_,_,_,hs,_,_=>by cases hs
 | k + 1, k', p, out, p2, o, hs, hk, hp => by
   obtain⟨g,rfl⟩:∃g,k'=g+1:=⟨k'-1,by omega⟩
   rw[xy]at hs ⊢
   cases hz:xX t ll 15 1 0 p with
   |none=>rw[hz]at hs;cases hs
   | some q =>
     obtain⟨y,p1⟩:=q
     rw[hz]at hs
     have hb:=yf hz
     rw[B3 h hz]
     dsimp only at hs
     by_cases c1:y<256
     · rw [if_pos c1] at hs
       split at hs
       · cases hs
       · have hge:=yh hs
         by_cases hp1:p1≤8* a.size
         · rw[if_pos hp1]
           dsimp only
           rw[if_pos c1,if_neg (by omega)]
           exact Aq hm hs (by omega) hp1
         · rw[if_neg hp1,if_neg (by omega)]
     · rw [if_neg c1] at hs
       by_cases c2:y=256
       · rw[if_pos c2]at hs
         cases hs
         by_cases hp1:p2≤8* a.size
         · rw[if_pos hp1,if_pos hp1]
           dsimp only
           rw[if_neg c1,if_pos c2]
         · rw[if_neg hp1,if_neg hp1]
       · rw [if_neg c2] at hs
         cases hc:yW t most dl y.toNat p1 out with
         |error e=>rw[hc]at hs;cases hs
         | ok q2 =>
           obtain⟨p3,o3⟩:=q2
           rw[hc]at hs
           dsimp only at hs
           have hge:=EP hc
           have hge2:=yh hs
           by_cases hp1:p1≤8* a.size
           · rw[if_pos hp1]
             dsimp only
             rw[if_neg c1,if_neg c2,JX h hm hc]
             by_cases hp3:p3≤8* a.size
             · rw[if_pos hp3]
               exact Aq hm hs (by omega) hp3
             · rw[if_neg hp3,if_neg (by omega)]
           · rw[if_neg hp1,if_neg (by omega)]
omit h in
theorem Jc {many p:Nat} {L:List Int} {p2:Nat} (hl:yq t many p=some (L,p2)):p≤p2:=by
 unfold yq at hl
 split at hl
 · dsimp only at hl
   split at hl
   · split at hl
     · have:=zy hl;omega
     · cases hl
   · cases hl
 · cases hl
theorem LV {most most' : Int} (hm : most ≤ most') {p : Nat} {out : List Nat} {p2 : Nat} {o : List Nat} (hs : A4 t most p out = .ok (p2, o)) : A4 a most' p out = if p2 ≤ 8 * a.size then .ok (p2, o) else .error 700 := by
 unfold A4 at hs ⊢
 dsimp only at hs ⊢
 split at hs
 · split at hs
   · cases hs
   · rename_i h1 h2
     split at hs
     · cases hs
     · rename_i L p3 hl
       split at hs
       · cases hs
       · rename_i h3
         have hge:=Jc hl
         have hge2:=yh hs
         by_cases hp:p+10≤8* a.size
         · rw[if_pos hp,h.val p 5 (by omega),h.val (p+5) 5 (by omega),if_neg h2,Kk h hl]
           by_cases hp3:p3≤8* a.size
           · rw[if_pos hp3]
             dsimp only
             rw[if_neg h3]
             exact Aq h hm hs (by omega) hp3
           · rw[if_neg hp3,if_neg (by omega)]
         · rw[if_neg hp,if_neg (by omega)]
 · cases hs
theorem Il {most most' : Int} (hm : most ≤ most') {p : Nat} {out : List Nat} {b : Bool} {p2 : Nat} {o : List Nat} (hs : xC t most p out = .ok (b, p2, o)) : xC a most' p out = if p2 ≤ 8 * a.size then .ok (b, p2, o) else .error 700 := by
 have hge:=zP hs
 unfold xC at hs ⊢
 dsimp only at hs ⊢ hge
 split at hs
 · by_cases hp : p + 3 ≤ 8 * a.size
   · rw [if_pos hp, h.val p 1 (by omega), h.val (p + 1) 2 (by omega)]
     have key:∀{r r':Rs},(∀p3 o3,r=.ok (p3,o3)→r'=if p3≤8* a.size then .ok (p3,o3)else .error 700)→(match r with| .ok q=>Except.ok (ε:=Int) (vP t p 1==1,q.1,q.2)| .error k=>.error k)=.ok (b,p2,o)→(match r' with| .ok q=>Except.ok (ε:=Int) (vP t p 1==1,q.1,q.2)| .error k=>.error k)=if p2≤8* a.size then .ok (b,p2,o)else .error 700:=by
      intro r r' hr hk
      cases r with
      |error k=>cases hk
      | ok q =>
        obtain⟨p3,o3⟩:=q
        rw[hr p3 o3 rfl]
        rw[←hk]
        have h1:p3=p2:=by
         have:=Yh (fun r:Except Int (Bool×Nat×List Nat)=>match r with| .ok q=>q.2.1|_=>0) hk
         exact this
        rw[h1]
        by_cases hp2:p2≤8* a.size
        · rw[if_pos hp2,if_pos hp2]
        · rw[if_neg hp2,if_neg hp2]
     refine key (fun p3 o3 hr=> ?_) hs
     by_cases d0:vP t (p+1) 2=0
     · rw[if_pos d0]at hr ⊢;exact HW h hm hr
     · rw[if_neg d0]at hr ⊢
       by_cases d1:vP t (p+1) 2=1
       · rw[if_pos d1]at hr ⊢;exact Aq h hm hr (by omega) hp
       · rw[if_neg d1]at hr ⊢
         by_cases d2:vP t (p+1) 2=2
         · rw[if_pos d2]at hr ⊢;exact LV h hm hr
         · rw[if_neg d2]at hr;cases hr
   · rw [if_neg hp]
     have:p+3≤p2:=by
      have h3:∀{r:Rs},(∀q,r=.ok q→p+3≤q.1)→(match r with| .ok q=>Except.ok (ε:=Int) (vP t p 1==1,q.1,q.2)| .error k=>.error k)=.ok (b,p2,o)→p+3≤p2:=by
       intro r hr hk
       cases r with
       |error k=>cases hk
       |ok q=>have:=hr q rfl;cases hk;exact this
      refine h3 (fun q hr=> ?_) hs
      obtain⟨p3,o3⟩:=q
      by_cases d0:vP t (p+1) 2=0
      · rw[if_pos d0]at hr
        unfold xV at hr
        dsimp only at hr
        split at hr
        · split at hr
          · have:=zW hr;dsimp only;omega
          · cases hr
        · cases hr
      · rw [if_neg d0] at hr
        by_cases d1:vP t (p+1) 2=1
        · rw[if_pos d1]at hr;have:=yh hr;dsimp only;omega
        · rw [if_neg d1] at hr
          by_cases d2:vP t (p+1) 2=2
          · rw [if_pos d2] at hr
            unfold A4 at hr
            split at hr
            · dsimp only at hr
              split at hr
              · cases hr
              · split at hr
                · cases hr
                · rename_i L p4 hl
                  split at hr
                  · cases hr
                  · have:=Jc hl;have:=yh hr;dsimp only;omega
            · cases hr
          · rw[if_neg d2]at hr;cases hr
     rw[if_neg (by omega)]
 · cases hs
omit h in
theorem Cn {most : Int} : ∀ {f p : Nat} {out : List Nat} {p2 : Nat} {o : List Nat}, wY t most f p out = .ok (p2, o) → p ≤ p2
 |0,_,_,_,_,hs=>by cases hs
 | f + 1, p, out, p2, o, hs => by
   rw[wY]at hs
   cases hb:xC t most p out with
   |error k=>rw[hb]at hs;cases hs
   | ok q =>
     obtain⟨b,p3,o3⟩:=q
     rw[hb]at hs
     have hge:=zP hb
     dsimp only at hs hge
     cases b with
     | true =>
       simp only[if_true]at hs
       have:=Yh (fun r:Rs=>match r with| .ok q=>q.1|_=>0) hs
       dsimp only at this
       omega
     | false =>
       simp only[vj,vJ]at hs
       have:=Cn hs
       omega
theorem CZ {most most' : Int} (hm : most ≤ most') : ∀ {f f' p : Nat} {out : List Nat} {p2 : Nat} {o : List Nat}, wY t most f p out = .ok (p2, o) → 8 * a.size < p + f' → p ≤ 8 * a.size → wY a most' f' p out = if p2 ≤ 8 * a.size then .ok (p2, o) else .error 700
 |0,_,_,_,_,_,hs,_,_=>by cases hs
 | f + 1, f', p, out, p2, o, hs, hf, hp => by
   obtain⟨g,rfl⟩:∃g,f'=g+1:=⟨f'-1,by omega⟩
   rw[wY]at hs ⊢
   cases hb:xC t most p out with
   |error k=>rw[hb]at hs;cases hs
   | ok q =>
     obtain⟨b,p3,o3⟩:=q
     rw[hb]at hs
     have hge:=zP hb
     rw[Il h hm hb]
     dsimp only at hs hge
     cases b with
     | true =>
       simp only[if_true]at hs
       have h1:p3=p2:=by
        have:=Yh (fun r:Rs=>match r with| .ok q=>q.1|_=>0) hs
        exact this
       rw[←hs,h1]
       by_cases hp3:p2≤8* a.size
       · rw[if_pos hp3,if_pos hp3];simp
       · rw[if_neg hp3,if_neg hp3]
     | false =>
       simp only[vj,vJ]at hs
       have hge2:p3≤p2:=Cn hs
       by_cases hp3:p3≤8* a.size
       · rw[if_pos hp3]
         simp only[vj,vJ]
         exact CZ hm hs (by omega) hp3
       · rw[if_neg hp3,if_neg (by omega)]
end
theorem Cz {t:ByteArray} {most:Int}:∀{n p:Nat} {out:List Nat} {p2:Nat} {o:List Nat},xp t most n p out=.ok (p2,o)→out.length≤o.length
 |0,p,out,p2,o,hs=>by rw[xp]at hs;cases hs;exact vm _
 | n + 1, p, out, p2, o, hs => by
   rw[xp]at hs
   split at hs
   · split at hs
     · cases hs
     · have:=Cz hs;simp at this;omega
   · cases hs
theorem Dq {most:Int} {d:Nat}:∀{n:Nat} {out o:List Nat},ya most d n out=.ok o→out.length≤o.length
 |0,out,o,hs=>by rw[ya]at hs;cases hs;exact vm _
 | n + 1, out, o, hs => by
   rw[ya]at hs
   split at hs
   · cases hs
   · have:=Dq hs;simp at this;omega
variable {t:ByteArray} {most most':Int}
theorem Di : ∀ {n p : Nat} {out : List Nat} {p2 : Nat} {o : List Nat}, xp t most n p out = .ok (p2, o) → (out.length : Int) ≤ most' → xp t most' n p out = if (o.length : Int) ≤ most' then .ok (p2, o) else .error 701
 | 0, p, out, p2, o, hs, hm => by
   rw[xp]at hs ⊢
   have h2:out=o:=by
    have:=Yh (fun r:Rs=>match r with| .ok q=>q.2|_=>[]) hs
    exact this
   subst h2
   rw[if_pos hm];exact hs
 | n + 1, p, out, p2, o, hs, hm => by
   rw[xp]at hs ⊢
   split at hs
   · rename_i hp
     split at hs
     · cases hs
     · rw[if_pos hp]
       have hlen:=Cz hs
       simp only[vI,Ye]at hlen
       by_cases hle:most'≤(out.length:Int)
       · rw[if_pos hle,if_neg (by omega)]
       · rw[if_neg hle]
         exact Di hs (by simp;omega)
   · cases hs
theorem DX {d : Nat} : ∀ {n : Nat} {out o : List Nat}, ya most d n out = .ok o → (out.length : Int) ≤ most' → ya most' d n out = if (o.length : Int) ≤ most' then .ok o else .error 701
 | 0, out, o, hs, hm => by
   rw[ya]at hs ⊢
   cases hs
   rw[if_pos hm]
 | n + 1, out, o, hs, hm => by
   rw[ya]at hs ⊢
   split at hs
   · cases hs
   · have hlen:=Dq hs
     simp only[vI,Ye]at hlen
     by_cases hle:most'≤(out.length:Int)
     · rw[if_pos hle,if_neg (by omega)]
     · rw[if_neg hle]
       exact DX hs (by simp;omega)
theorem Iw {dl : List Int} {y p : Nat} {out : List Nat} {p2 : Nat} {o : List Nat} (hs : yW t most dl y p out = .ok (p2, o)) (hm : (out.length : Int) ≤ most') : (yW t most' dl y p out = if (o.length : Int) ≤ most' then .ok (p2, o) else .error 701) ∧ out.length ≤ o.length := by
 unfold yW at hs ⊢
 cases hl:lenOf y with
 |none=>rw[hl]at hs;cases hs
 | some le =>
   obtain⟨least,extra⟩:=le
   rw[hl]at hs
   dsimp only at hs ⊢
   split at hs
   · rename_i hp
     rw[if_pos hp]
     cases hz:xX t dl 15 1 0 (p+extra)with
     |none=>rw[hz]at hs;cases hs
     | some q =>
       obtain⟨z,p3⟩:=q
       rw[hz]at hs
       dsimp only at hs ⊢
       cases hd:wu z.toNat with
       |none=>rw[hd]at hs;cases hs
       | some lx =>
         obtain⟨ld,xd⟩:=lx
         rw[hd]at hs
         dsimp only at hs ⊢
         split at hs
         · rename_i h2
           rw[if_pos h2]
           cases hc:ya most (ld+vP t p3 xd) (least+vP t p extra) out with
           |error k=>rw[hc]at hs;cases hs
           | ok o2 =>
             rw[hc]at hs
             dsimp only at hs
             have h3:o2=o:=by
              have:=Yh (fun r:Rs=>match r with| .ok q=>q.2|_=>[]) hs
              exact this
             subst h3
             have hlen:=Dq hc
             rw[DX hc hm]
             refine⟨?_,hlen⟩
             by_cases hle:(o2.length:Int)≤most'
             · rw[if_pos hle,if_pos hle];exact hs
             · rw[if_neg hle,if_neg hle]
         · cases hs
   · cases hs
theorem yy {ll dl : List Int} : ∀ {k p : Nat} {out : List Nat} {p2 : Nat} {o : List Nat} {most' : Int}, xy t most ll dl k p out = .ok (p2, o) → (out.length : Int) ≤ most' → (xy t most' ll dl k p out = if (o.length : Int) ≤ most' then .ok (p2, o) else .error 701) ∧ out.length ≤ o.length
 |0,_,_,_,_,_,hs,_=>by cases hs
 | k + 1, p, out, p2, o, most', hs, hm => by
   rw[xy]at hs ⊢
   cases hz:xX t ll 15 1 0 p with
   |none=>rw[hz]at hs;cases hs
   | some q =>
     obtain⟨y,p1⟩:=q
     rw[hz]at hs
     dsimp only at hs ⊢
     by_cases c1:y<256
     · rw [if_pos c1] at hs ⊢
       split at hs
       · cases hs
       · by_cases hle:most'≤(out.length:Int)
         · rw[if_pos hle]
           have hlen:(out++[y.toNat]).length≤o.length:=(yy (most':=((out++[y.toNat]).length:Int)) hs (Yq _)).2
           simp only[vI,Ye]at hlen
           exact⟨by rw[if_neg (by omega)],by omega⟩
         · rw[if_neg hle]
           have:=yy (most':=most') hs (by simp;omega)
           refine⟨this.1, ?_⟩
           have h2:=this.2
           simp only[vI,Ye]at h2
           omega
     · rw [if_neg c1] at hs ⊢
       by_cases c2:y=256
       · rw[if_pos c2]at hs ⊢
         have h3:out=o:=by
          have:=Yh (fun r:Rs=>match r with| .ok q=>q.2|_=>[]) hs
          exact this
         subst h3
         rw[if_pos hm]
         exact⟨hs,vm _⟩
       · rw [if_neg c2] at hs ⊢
         cases hc:yW t most dl y.toNat p1 out with
         |error e=>rw[hc]at hs;cases hs
         | ok q2 =>
           obtain⟨p3,o3⟩:=q2
           rw[hc]at hs
           dsimp only at hs
           have hb:=Iw (most':=most') hc hm
           rw[hb.1]
           by_cases hle:(o3.length:Int)≤most'
           · rw[if_pos hle]
             have:=yy (most':=most') hs hle
             exact⟨this.1,vG hb.2 this.2⟩
           · rw[if_neg hle]
             have hlen:o3.length≤o.length:=(yy (most':=(o3.length:Int)) hs (Yq _)).2
             exact⟨by rw[if_neg (by omega)],by omega⟩
theorem F3 {p:Nat} {out:List Nat} {p2:Nat} {o:List Nat} (hs:xV t most p out=.ok (p2,o)) (hm:(out.length:Int)≤most'):(xV t most' p out=if(o.length:Int)≤most' then .ok (p2,o)else .error 701)∧out.length≤o.length:=by
 unfold xV at hs ⊢
 dsimp only at hs ⊢
 split at hs
 · rename_i h1
   split at hs
   · rename_i h2
     rw[if_pos h1,if_pos h2]
     exact⟨Di hs hm,Cz hs⟩
   · cases hs
 · cases hs
theorem J3 {p : Nat} {out : List Nat} {p2 : Nat} {o : List Nat} (hs : A4 t most p out = .ok (p2, o)) (hm : (out.length : Int) ≤ most') : (A4 t most' p out = if (o.length : Int) ≤ most' then .ok (p2, o) else .error 701) ∧ out.length ≤ o.length := by
 unfold A4 at hs ⊢
 dsimp only at hs ⊢
 split at hs
 · rename_i h1
   rw[if_pos h1]
   split at hs
   · cases hs
   · rename_i h2
     rw[if_neg h2]
     split at hs
     · cases hs
     · rename_i L p3 hl
       split at hs
       · cases hs
       · rename_i h3
         rw[if_neg h3]
         exact yy hs hm
 · cases hs
theorem Hn {p : Nat} {out : List Nat} {b : Bool} {p2 : Nat} {o : List Nat} (hs : xC t most p out = .ok (b, p2, o)) (hm : (out.length : Int) ≤ most') : (xC t most' p out = if (o.length : Int) ≤ most' then .ok (b, p2, o) else .error 701) ∧ out.length ≤ o.length := by
 unfold xC at hs ⊢
 dsimp only at hs ⊢
 split at hs
 · rename_i hp
   rw[if_pos hp]
   have key:∀{r r':Rs},(∀p3 o3,r=.ok (p3,o3)→(r'=if(o3.length:Int)≤most' then .ok (p3,o3)else .error 701)∧out.length≤o3.length)→(match r with| .ok q=>Except.ok (ε:=Int) (vP t p 1==1,q.1,q.2)| .error k=>.error k)=.ok (b,p2,o)→((match r' with| .ok q=>Except.ok (ε:=Int) (vP t p 1==1,q.1,q.2)| .error k=>.error k)=if(o.length:Int)≤most' then .ok (b,p2,o)else .error 701)∧out.length≤o.length:=by
    intro r r' hr hk
    cases r with
    |error k=>cases hk
    | ok q =>
      obtain⟨p3,o3⟩:=q
      have h1:=hr p3 o3 rfl
      have h2:o3=o:=by
       have:=Yh (fun r:Except Int (Bool×Nat×List Nat)=>match r with| .ok q=>q.2.2|_=>[]) hk
       exact this
      rw[h1.1,←hk,←h2]
      refine⟨?_,h1.2⟩
      by_cases hle:(o3.length:Int)≤most'
      · rw[if_pos hle,if_pos hle]
      · rw[if_neg hle,if_neg hle]
   refine key (fun p3 o3 hr=> ?_) hs
   by_cases d0:vP t (p+1) 2=0
   · rw[if_pos d0]at hr ⊢;exact F3 hr hm
   · rw[if_neg d0]at hr ⊢
     by_cases d1:vP t (p+1) 2=1
     · rw[if_pos d1]at hr ⊢;exact yy hr hm
     · rw[if_neg d1]at hr ⊢
       by_cases d2:vP t (p+1) 2=2
       · rw[if_pos d2]at hr ⊢;exact J3 hr hm
       · rw[if_neg d2]at hr;cases hr
 · cases hs
theorem zo : ∀ {f p : Nat} {out : List Nat} {p2 : Nat} {o : List Nat} {most' : Int}, wY t most f p out = .ok (p2, o) → (out.length : Int) ≤ most' → (wY t most' f p out = if (o.length : Int) ≤ most' then .ok (p2, o) else .error 701) ∧ out.length ≤ o.length
 |0,_,_,_,_,_,hs,_=>by cases hs
 | f + 1, p, out, p2, o, most', hs, hm => by
   rw[wY]at hs ⊢
   cases hb:xC t most p out with
   |error k=>rw[hb]at hs;cases hs
   | ok q =>
     obtain⟨b,p3,o3⟩:=q
     rw[hb]at hs
     have h1:=Hn (most':=most') hb hm
     rw[h1.1]
     dsimp only at hs
     cases b with
     | true =>
       simp only[if_true]at hs
       have h2:o3=o:=by
        have:=Yh (fun r:Rs=>match r with| .ok q=>q.2|_=>[]) hs
        exact this
       subst h2
       refine⟨?_,h1.2⟩
       by_cases hle:(o3.length:Int)≤most'
       · rw[if_pos hle,if_pos hle];simp only[if_true];exact hs
       · rw[if_neg hle,if_neg hle]
     | false =>
       simp only[vj,vJ]at hs
       by_cases hle:(o3.length:Int)≤most'
       · rw[if_pos hle]
         simp only[vj,vJ]
         have:=zo (most':=most') hs hle
         exact⟨this.1,vG h1.2 this.2⟩
       · rw[if_neg hle]
         have hlen:o3.length≤o.length:=(zo (most':=(o3.length:Int)) hs (Yq _)).2
         exact⟨by rw[if_neg (by omega)],by have:=h1.2;omega⟩
theorem I3 {o : List Nat} {took : Nat} (hs : wT t most = .ok (o, took)) : ∃ p, wY t most (8 * t.size + 1) 0 [] = .ok (p, o) ∧ took = (p + 7) / 8 ∧ 0 < p ∧ p ≤ 8 * t.size ∧ (o.length : Int) ≤ most ∧ 0 ≤ most ∧ most ≤ 8192 := by
 unfold wT at hs
 split at hs
 · cases hs
 · rename_i h1
   cases hi:wY t most (8* t.size+1) 0 []with
   |error k=>rw[hi]at hs;cases hs
   | ok q =>
     obtain⟨p,o2⟩:=q
     rw[hi]at hs
     dsimp only at hs
     have h2:o2=o∧(p+7)/8=took:=by
      have:=Yh (fun r:Except Int (List Nat×Nat)=>match r with| .ok q=>q|_=>([],0)) hs
      exact u9 this
     obtain⟨rfl,rfl⟩:=h2
     have hd:=CZ (a:=t) (t:=t) ⟨vm _,fun _ _=>rfl⟩ (Yq most) hi (f':=8* t.size+1) (by omega) (Nat.zero_le _)
     rw[hi]at hd
     have hp:p≤8* t.size:=by
      by_cases q:p≤8* t.size
      · exact q
      · rw[if_neg q]at hd;cases hd
     have hb:=(zo (most':=most) hi (by simp;omega)).1
     rw[hi]at hb
     have hl:(o2.length:Int)≤most:=by
      by_cases q:(o2.length:Int)≤most
      · exact q
      · rw[if_neg q]at hb;cases hb
     have hp0:0<p:=by
      rw[wY]at hi
      cases hbk:xC t most 0 []with
      |error k=>rw[hbk]at hi;cases hi
      | ok z =>
        obtain⟨b,p3,o3⟩:=z
        rw[hbk]at hi
        have hge:=zP hbk
        dsimp only at hi hge
        cases b with
        | true =>
          simp only[if_true]at hi
          have:=Yh (fun r:Rs=>match r with| .ok q=>q.1|_=>0) hi
          dsimp only at this
          omega
        | false =>
          simp only[vj,vJ]at hi
          have:=Cn hi
          omega
     exact⟨p,rfl,rfl,hp0,hp,hl,by omega,by omega⟩
theorem FX {o:List Nat} {took:Nat} (hs:wT t most=.ok (o,took)) (h0:0≤most') (hm:most'<(o.length:Int)):wT t most'=.error 701:=by
 obtain⟨p,h1,h2,h3,h4,h5,h6,h7⟩:=I3 hs
 have hb:=(zo (most':=most') h1 (by simpa using h0)).1
 unfold wT
 rw[if_neg (by omega),hb,if_neg (by omega)]
theorem xf (l:List Nat):(bytesOf l).size=l.length:=by
 show(l.map UInt8.ofNat).toArray.size=_
 simp
theorem L9 (h:H) (r:Nat) (s:ByteArray) (R:List AV) (p x i n:Nat) (hg:h.get r=some (.str s::I p::R)) (hf:h.floor≤r) (hp:p<8* s.size) (hs:s.size<1125899906842624) (hx:x<2^i) (hi:i<n) (hn:n≤16):
 aL (aR AP.A) bq AP.f46L0 [(0,.aD r 0),(1,I n),(6,I x),(7,I i)] h=some (.normal,[(0,.aD r 0),(1,I n),(6,I (x+xA s p* 2^i:Nat)),(7,I (i+1:Nat))],h.set r (.str s::I (p+1:Nat)::R)):=by
 obtain⟨b,hb⟩:=KO (s:=s) (i:=p/8) (by omega)
 have hb8:b.toNat<256:=b.toNat_lt
 have hbit:xA s p=b.toNat/2^(p%8)%2:=by simp [xA,hb]
 have t1:bj .quo (.int .i64 (p:Int)) (.int .i64 8)=some (.int .i64 ((p/8:Nat):Int)):=by
  rw[sg _ _ _ (by omega),show(8:Int)=((8:Nat):Int)from rfl,yw,vL (by omega)]
 have t2:bj .rem (.int .i64 (p:Int)) (.int .i64 8)=some (.int .i64 ((p%8:Nat):Int)):=by
  rw[sh _ _ _ (by omega),show(8:Int)=((8:Nat):Int)from rfl,AX]
 have a1:mC (.str s) (I (p/8:Nat))=some (.int .u8 b.toNat):=by
  simp only[mC,kj (show p/8<s.size by omega),vi,hb]
 have s1:pF .shr .u8 (b.toNat:Int) ((p%8:Nat):Int)=some (.int .u8 ((b.toNat/2^(p%8):Nat):Int)):=NY (by omega)
 have hlt:b.toNat/2^(p%8)<256:=Nat.lt_of_le_of_lt (Nat.div_le_self _ _) hb8
 have n1:bits .and .u8 ((b.toNat/2^(p%8):Nat):Int) 1=((xA s p:Nat):Int):=by
  have:=F8 (b:=1) hlt (by omega)
  rw[Nat.and_one_is_mod]at this
  rw[hbit];exact this
 have hbl:=EF s p
 have w2:IntKind.wrap .i64 ((xA s p:Nat):Int)=((xA s p:Nat):Int):=vL (by omega)
 have hpow:(2:Nat)^i≤2^16:=XY (by omega) (by omega)
 have hmul:xA s p* 2^i≤2^i:=by
  have:=vp (2^i) hbl;simpa using this
 have s2:pF .shl .i64 ((xA s p:Nat):Int) (i:Int)=some (.int .i64 ((xA s p* 2^i:Nat):Int)):=ym (by omega) (by omega)
 have o1:bits .or .i64 (x:Int) ((xA s p* 2^i:Nat):Int)=((x+xA s p* 2^i:Nat):Int):=by
  rw[Eo (by omega) (by omega),Kq hx]
 have w3:IntKind.wrap .i64 ((p:Int)+1)=((p+1:Nat):Int):=vL (n:=p+1) (by omega)
 have w4:IntKind.wrap .i64 ((i:Int)+1)=((i+1:Nat):Int):=vL (n:=i+1) (by omega)
 have c1:(i:Int)<n:=by omega
 have hst:uD h r 1 1 [I (p+1:Nat)] (some (.str s::I p::R))=some (h.set r (.str s::I (p+1:Nat)::R)):=uU hf (by simp) rfl
 generalize hB:xA s p=B at *
 generalize hD:b.toNat/2^(p%8)=D at *
 generalize hE:p/8=E at *
 generalize hF:p%8=F at *
 generalize hO:x+B* 2^i=O at *
 generalize hM:B* 2^i=W at *
 simp only[I]at *
 simp only[AP.f46L0,go_sem,XS c1,hg,t1,a1,t2,s1,n1,w2,s2,o1,w3,hst,w4]
theorem Gs (r:Nat) (s:ByteArray) (R:List AV) (p n:Nat) (hs:s.size<1125899906842624) (hp:p+n≤8* s.size) (hn:n≤16):∀(k i:Nat) (h:H),i+k=n→h.get r=some (.str s::I (p+i:Nat)::R)→h.floor≤r→
 ∃e',Lp AP.A [0,1,6,7] AP.f46L0 [(0,.aD r 0),(1,I n),(6,I (vP s p i:Nat)),(7,I i)] h=some (.exit 0,e',h.set r (.str s::I (p+n:Nat)::R))∧look e' 6=I (vP s p n:Nat)
 | 0, i, h, hk, hg, hf => by
   obtain rfl:i=n:=by omega
   refine⟨[(0,.aD r 0),(1,I i),(6,I (vP s p i:Nat)),(7,I i),(29,.bool false)],tM ?_,rfl⟩
   rw[H.jC hg]
   have c1:¬(i:Int)<i:=by omega
   simp only[I]at *
   simp only[AP.f46L0,go_sem,XP c1]
 | k + 1, i, h, hk, hg, hf => by
   have st:=L9 h r s R (p+i) (vP s p i) i n hg hf (by omega) hs (wQ s p i) (by omega) hn
   obtain⟨e',k1,k2⟩:=Gs r s R p n hs hp hn k (i+1) (h.set r (.str s::I (p+i+1:Nat)::R)) (by omega) (by rw[H.dp,if_pos rfl,hg];rfl) (by simpa using hf)
   rw[H.set_set]at k1
   exact⟨e',tN st k1,k2⟩
theorem OL (h:H) (r:Nat) (s:ByteArray) (R:List AV) (p n:Nat) (hg:h.get r=some (.str s::I p::R)) (hf:h.floor≤r) (hs:s.size<1125899906842624) (hp:p+n≤8* s.size) (hn:n≤16):
 aR AP.A 46 [.aD r 0,I n] h=some (.bM [I (vP s p n:Nat),I 0],h.set r (.str s::I (p+n:Nat)::R)):=by
 obtain⟨e',k1,k2⟩:=Gs r s R p n hs hp hn n 0 h (by omega) hg hf
 have k1':Lp AP.A [0,1,6,7] AP.f46L0 [(0,.aD r 0),(1,I n),(6,I 0),(7,I 0)] h=some (.exit 0,e',h.set r (.str s::I (p+n:Nat)::R)):=k1
 clear k1
 have c0:¬(n:Int)<0:=by omega
 have c1:¬(16:Int)<n:=by omega
 have w1:IntKind.wrap .i64 (8* (s.size:Int))=((8* s.size:Nat):Int):=vL (n:=8* s.size) (by omega)
 have w2:IntKind.wrap .i64 (((8* s.size:Nat):Int)-p)=((8* s.size-p:Nat):Int):=by
  rw[←Int.ofNat_sub (by omega)];exact vL (by omega)
 have c2:¬((8* s.size-p:Nat):Int)<n:=by omega
 refine tZ (fn:=AP.f46) (e:=[(4,I (vP s p n:Nat)),(5,I 0)]) rfl rfl rfl ?_ rfl
 generalize hM:8* s.size-p=W at *
 generalize hM2:8* s.size=W2 at *
 simp only[I]at *
 simp only[AP.f46,go_sem,XP c0,XP c1,hg,w1,w2,XP c2,sG,k1',k2]
theorem Nk (h:H) (r:Nat) (s:ByteArray) (R:List AV) (p n:Nat) (hg:h.get r=some (.str s::I p::R)) (hs:s.size<1125899906842624) (hp0:p≤8* s.size) (hp:8* s.size<p+n) (hn:n≤16):
 aR AP.A 46 [.aD r 0,I n] h=some (.bM [I 0,I 101],h):=by
 have c0:¬(n:Int)<0:=by omega
 have c1:¬(16:Int)<n:=by omega
 have w1:IntKind.wrap .i64 (8* (s.size:Int))=((8* s.size:Nat):Int):=vL (n:=8* s.size) (by omega)
 have w2:IntKind.wrap .i64 (((8* s.size:Nat):Int)-p)=((8* s.size-p:Nat):Int):=by
  rw[←Int.ofNat_sub (by omega)];exact vL (by omega)
 have c2:((8* s.size-p:Nat):Int)<n:=by omega
 refine tZ (fn:=AP.f46) (e:=[(4,I 0),(5,I 101)]) rfl rfl rfl ?_ rfl
 generalize hM:8* s.size-p=W at *
 generalize hM2:8* s.size=W2 at *
 simp only[I]at *
 simp only[AP.f46,go_sem,XP c0,XP c1,hg,w1,w2,XS c2]
structure FC where
 f:Nat
 text:ByteArray
 most:Int
structure Ft (c:FC) (S:SS) (h:H) (ov:AV):Prop where
 gf:h.get c.f=some [.str c.text,I S.at_,ov,I c.most,I S.e]
 own:nJ h ov (yM S.out)
 ff:h.floor≤c.f
 of:ov.id?≠some c.f
 nx:h.floor≤h.next
 sz:c.text.size<1125899906842624
 xY:S.at_≤8* c.text.size
 ol:(S.out.length:Int)≤c.most
 ml:c.most≤900000
structure FF (c:FC) (h:H) (ov:AV) (h':H) (ov':AV):Prop where
 fl:h'.floor=h.floor
 nx:h.next≤h'.next
 D9:∀id,id<h.next→id≠c.f→ov.id?≠some id→h'.get id=h.get id
 nb:∀i,ov'.id?=some i→ov.id?=some i∨h.next≤i
theorem FF.refl (c:FC) (h:H) (ov:AV):FF c h ov h ov:=⟨rfl,vm _,fun _ _ _ _=>rfl,fun _ q=>.inl q⟩
theorem FF.trans {c:FC} {h1 h2 h3:H} {o1 o2 o3:AV} (a:FF c h1 o1 h2 o2) (b:FF c h2 o2 h3 o3):FF c h1 o1 h3 o3:=by
 refine⟨b.fl.trans a.fl,vG a.nx b.nx,fun id h4 h5 h7=> ?_,fun i hi=> ?_⟩
 · rw[b.D9 id (Nat.lt_of_lt_of_le h4 a.nx) h5 (fun q=> ?_),a.D9 id h4 h5 h7]
   rcases a.nb id q with q|q
   · exact h7 q
   · omega
 · rcases b.nb i hi with q|q
   · exact a.nb i q
   · exact .inr (vG a.nx q)
theorem Ft.HT {c:FC} {S:SS} {h:H} {ov:AV} (st:Ft c S h ov) {p:Nat} (hp:p≤8* c.text.size) (e:Int):Ft c ⟨p,S.out,e⟩ (h.set c.f [.str c.text,I p,ov,I c.most,I e]) ov∧FF c h ov (h.set c.f [.str c.text,I p,ov,I c.most,I e]) ov:=by
 refine⟨⟨by rw[H.dp,if_pos rfl,st.gf];rfl,st.own.mono (by simp) fun i hi=> ?_,by simpa using st.ff,st.of,by simpa using st.nx,st.sz,hp,st.ol,st.ml⟩,⟨by simp,by simp,fun id h1 h2 h4=>by rw[H.dp,if_neg h2],fun _ q=>.inl q⟩⟩
 rw[H.dp,if_neg];intro (e:i=c.f);exact st.of (e ▸ hi)
theorem Ft.wV {c:FC} {S:SS} {h h':H} {ov:AV} (st:Ft c S h ov) (hf:h'.floor=h.floor) (hn:h.next≤h'.next) (hg:∀i,i=c.f∨ov.id?=some i→h'.get i=h.get i):Ft c S h' ov:=
 ⟨by rw[hg _ (.inl rfl)];exact st.gf,st.own.mono hf fun i hi=>hg i (.inr hi),by rw[hf];exact st.ff,st.of,by rw[hf];exact vG st.nx hn,st.sz,st.xY,st.ol,st.ml⟩
theorem Ft.lt {c:FC} {S:SS} {h:H} {ov:AV} (st:Ft c S h ov) {i:Nat} (hi:i=c.f∨ov.id?=some i):i<h.next:=by
 rcases hi with rfl|hi
 · exact h.lt _ _ st.gf
 · exact st.own.lt hi
theorem Ft.alloc {c:FC} {S:SS} {h:H} {ov:AV} (st:Ft c S h ov) (cs:List AV):Ft c S (h.alloc cs) ov∧FF c h ov (h.alloc cs) ov:=by
 refine⟨st.wV (by simp) (by simp) fun i hi=> ?_,⟨by simp,by simp,fun id h1 _ _=> ?_,fun _ q=>.inl q⟩⟩
 · have:=st.lt hi;rw[H.aW,if_neg (by omega)]
 · rw[H.aW,if_neg (by omega)]
def wC (c:FC) (n:Nat) (S:SS):Nat×SS:=if S.at_+n≤8* c.text.size then(vP c.text S.at_ n,{S with at_:=S.at_+n})else(0,v8 700 S)
theorem OM (c:SC) (d:FC) (ht:c.text=d.text) (n:Nat) (S:SS):vU c n S=wC d n S:=by unfold vU wC;rw[ht]
theorem yO {c:FC} {S:SS} {h:H} {ov:AV} (st:Ft c S h ov) (n:Nat) (m:Int) (hm:m=n) (hn:n≤16):∃h',aR AP.A 18 [.aD c.f 0,I m] h=some (I ((wC c n S).1:Nat),h')∧Ft c (wC c n S).2 h' ov∧FF c h ov h' ov:=by
 subst hm
 have gf:=st.gf
 by_cases hp:S.at_+n≤8* c.text.size
 · have g:=OL h c.f c.text _ S.at_ n st.gf st.ff st.sz hp hn
   refine⟨_, ?_,by rw[wC,if_pos hp];exact(st.HT hp S.e).1,(st.HT hp S.e).2⟩
   rw[wC,if_pos hp]
   have c0:((0:Int) !=0)=false:=rfl
   refine tZ (fn:=AP.f18) (e:=[(4,I (vP c.text S.at_ n:Nat))]) rfl rfl rfl ?_ rfl
   simp only[I]at *
   simp only[AP.f18,go_sem,g,c0]
 · have g:=Nk h c.f c.text _ S.at_ n st.gf st.sz st.xY (by omega) hn
   have c0:((101:Int) !=0)=true:=rfl
   rw[wC,if_neg hp]
   by_cases he:S.e=0
   · have c1:=uI he
     have hst:uD h c.f 4 1 [I 700] (some [.str c.text,I S.at_,ov,I c.most,I S.e])=some (h.set c.f [.str c.text,I S.at_,ov,I c.most,I 700]):=uU st.ff (by simp) rfl
     refine⟨_, ?_,by rw[v8,if_pos he];exact(st.HT st.xY 700).1,(st.HT st.xY 700).2⟩
     refine tZ (fn:=AP.f18) (e:=[(4,I 0)]) rfl rfl rfl ?_ rfl
     simp only[I]at *
     simp only[AP.f18,go_sem,g,c0,gf,c1,hst]
   · have c1:=uH he
     refine⟨h, ?_,by rw[v8,if_neg he];exact st,FF.refl _ _ _⟩
     refine tZ (fn:=AP.f18) (e:=[(4,I 0)]) rfl rfl rfl ?_ rfl
     simp only[I]at *
     simp only[AP.f18,go_sem,g,c0,gf,c1]
theorem y7 {c:FC} {S:SS} {h:H} {ov:AV} (st:Ft c S h ov):∃h',aR AP.A 25 [.aD c.f 0] h=some (.bM [],h')∧Ft c (v8 700 S) h' ov∧FF c h ov h' ov:=by
 have gf:=st.gf
 by_cases he:S.e=0
 · have c1:=uI he
   have hst:uD h c.f 4 1 [I 700] (some [.str c.text,I S.at_,ov,I c.most,I S.e])=some (h.set c.f [.str c.text,I S.at_,ov,I c.most,I 700]):=uU st.ff (by simp) rfl
   refine⟨_, ?_,by rw[v8,if_pos he];exact(st.HT st.xY 700).1,(st.HT st.xY 700).2⟩
   refine wF (fn:=AP.f25) (e:=[]) rfl rfl rfl ?_ rfl
   simp only[I]at *
   simp only[AP.f25,go_sem,gf,c1,hst]
 · have c1:=uH he
   refine⟨h, ?_,by rw[v8,if_neg he];exact st,FF.refl _ _ _⟩
   refine wF (fn:=AP.f25) (e:=[]) rfl rfl rfl ?_ rfl
   simp only[I]at *
   simp only[AP.f25,go_sem,gf,c1]
theorem Nb {c:FC} {S:SS} {h:H} {ov:AV} (st:Ft c S h ov):∃h',aR AP.A 47 [.aD c.f 0] h=some (.bM [],h')∧Ft c {S with at_:=(S.at_+7)/8* 8} h' ov∧FF c h ov h' ov:=by
 have gf:=st.gf
 have hle:=st.xY
 have hsz:=st.sz
 have w2:IntKind.wrap .i64 ((S.at_:Int)+7)=((S.at_+7:Nat):Int):=vL (n:=S.at_+7) (by omega)
 have w3:IntKind.wrap .i64 (((S.at_+7:Nat):Int).tdiv 8)=(((S.at_+7)/8:Nat):Int):=by
  rw[show(8:Int)=((8:Nat):Int)from rfl,yw];exact vL (by omega)
 have w4:IntKind.wrap .i64 ((((S.at_+7)/8:Nat):Int)* 8)=(((S.at_+7)/8* 8:Nat):Int):=by
  rw[show(((S.at_+7)/8:Nat):Int)* 8=(((S.at_+7)/8* 8:Nat):Int)by omega];exact vL (by omega)
 have q:bj .quo (.int .i64 ((S.at_+7:Nat):Int)) (.int .i64 8)=some (.int .i64 (((S.at_+7)/8:Nat):Int)):=by rw[sg _ _ _ (by omega),w3]
 have hst:uD h c.f 1 1 [I ((S.at_+7)/8* 8:Nat)] (some [.str c.text,I S.at_,ov,I c.most,I S.e])=some (h.set c.f [.str c.text,I ((S.at_+7)/8* 8:Nat),ov,I c.most,I S.e]):=uU st.ff (by simp) rfl
 have hp:(S.at_+7)/8* 8≤8* c.text.size:=by omega
 refine⟨_, ?_,(st.HT hp S.e).1,(st.HT hp S.e).2⟩
 refine wF (fn:=AP.f47) (e:=[]) rfl rfl rfl ?_ rfl
 generalize (S.at_+7)/8* 8=P8 at *
 generalize (S.at_+7)/8=P at *
 generalize S.at_+7=P7 at *
 simp only[I]at *
 simp only[AP.f47,go_sem,gf,w2,q,w4,hst]
theorem Kf {c : FC} {S : SS} {h : H} {ov : AV} (st : Ft c S h ov) (he : S.e = 0) (b : Nat) : ∃ h' ov' S', aR AP.A 48 [.aD c.f 0, .int .u8 b] h = some (.bM [], h') ∧ Ft c S' h' ov' ∧ FF c h ov h' ov' ∧ S' = if c.most ≤ S.out.length then { S with e := 701 } else ⟨S.at_, S.out ++ [b], 0⟩ := by
 have gf:=st.gf
 have hol:=st.ol
 have hml:=st.ml
 have ln:=st.own.len
 rw[yN]at ln
 have c1:=uI he
 by_cases hm:c.most≤S.out.length
 · rw[if_pos hm]
   have hst:uD h c.f 4 1 [I 701] (some [.str c.text,I S.at_,ov,I c.most,I S.e])=some (h.set c.f [.str c.text,I S.at_,ov,I c.most,I 701]):=uU st.ff (by simp) rfl
   have s1:=st.HT st.xY 701
   have gf1:=s1.1.gf
   refine⟨_,ov,_, ?_,s1.1,s1.2,rfl⟩
   refine wF (fn:=AP.f48) (e:=[]) rfl rfl rfl ?_ rfl
   simp only[I]at *
   simp only[AP.f48,go_sem,gf,c1,ln,XS hm,hst,gf1]
 · rw [if_neg hm]
   have hfl:c.f<h.next:=h.lt _ _ st.gf
   obtain⟨h1,eh1⟩:∃g,g=h.alloc [.int .u8 b]:=⟨_,rfl⟩
   have hlo1:∀i,i≠h.next→h1.get i=h.get i:=fun i q=>by rw[eh1,H.aW,if_neg q]
   have hfl1:h1.floor=h.floor:=by rw[eh1];simp
   have hnx1:h1.next=h.next+1:=by rw[eh1];simp
   have ho1:nJ h1 ov (yM S.out):=st.own.mono hfl1 fun i hi=>hlo1 i (by have:=st.own.lt hi;omega)
   have hnxf:=st.nx
   obtain⟨v',h2,q1,q2,q3,q4,q5,q6⟩:=ho1.app (by omega) (z:=1) (.int .u8 b) rfl (by simp [roomy];omega)
   have src:aS h1 1 (.aE h.next 0 1 1)=some (1,[.int .u8 b]):=by simp [aS,eh1,H.aW]
   have ap:kM h1 1 1 ov (.aE h.next 0 1 1)=some (v',h2):=by unfold kM;rw[src,vi];exact q1
   have gf1:h1.get c.f=some [.str c.text,I S.at_,ov,I c.most,I S.e]:=by rw[hlo1 _ (by omega)];exact st.gf
   have gf2:h2.get c.f=some [.str c.text,I S.at_,ov,I c.most,I S.e]:=by rw[q5 _ st.of (by omega)];exact gf1
   have ff2:h2.floor≤c.f:=by have:=st.ff;omega
   have hv':v'.cells=[v']∧v'.sc=true:=by
    rcases q2 with ⟨rfl,_⟩|⟨id,rfl,_⟩<;>exact⟨rfl,rfl⟩
   have hst:uD h2 c.f 2 1 v'.cells (some [.str c.text,I S.at_,ov,I c.most,I S.e])=some (h2.set c.f [.str c.text,I S.at_,v',I c.most,I S.e]):=by rw[hv'.1];exact uU ff2 (by simp) hv'.2
   have hby:yM (S.out++[b])=yM S.out++[.int .u8 b]:=by simp [yM]
   have bt:∀e:Env,look e 34=.int .u8 b→aY e (.cD 1 1 [.int .u8 0] [(0,(.t 34))])=some ([.int .u8 b],fun i=>.aE i 0 1 1):=by
    intro e q;simp only[aY,XX,Yk,sI,q];rfl
   refine⟨h2.set c.f [.str c.text,I S.at_,v',I c.most,I S.e],v',_, ?_, ?_, ?_,rfl⟩
   · refine wF (fn:=AP.f48) (e:=[]) rfl rfl rfl ?_ rfl
     simp only[I]at *
     simp only[AP.f48,go_sem,gf,c1,ln,XP hm]
     rw[bt _ rfl]
     simp only[go_sem,←eh1,ap,gf2,hst]
   · refine⟨by rw[H.dp,if_pos rfl,gf2,he];rfl, ?_,by simpa using ff2, ?_,by simp;omega,st.sz,st.xY,by simp;omega,st.ml⟩
     · rw[hby]
       refine q2.mono (by simp) fun i hi=> ?_
       rw[q6]at hi;cases hi
       rw[H.dp,if_neg (by omega)]
     · rw[q6];intro e;have:=u6 e;omega
   · refine⟨by simp;omega,by simp;omega,fun id a1 a2 a4=> ?_,fun i hi=> ?_⟩
     · rw[H.dp,if_neg a2,q5 id a4 (by omega),hlo1 id (by omega)]
     · rw[q6]at hi;cases hi;right;omega
def flat (l:List Int):Nat→List Int
 |0=>[]
 |n+1=>flat l n++syms l (n+1)
def NP (l:List Int):Nat→AV:=fun i=>if i<16 then I (xw l i)else Am (ints (flat l 15))
def wq (l:List Int):AV:=.aK (nK 17 (NP l)) 0
theorem Bw (l:List Int):∀n,(flat l n).length≤n* l.length
 |0=>by simp [flat]
 | n + 1 => by
   rw[flat,vI,vE,Nat.one_mul]
   have:=Bw l n
   have:=BN l (n+1)
   omega
structure Si (h0 h:H) (b:Nat) (D:Nat→AV) (k:Nat) (p S0:List Int):Prop where
 get:h.get b=some (nK 17 D)
 fl:h.floor=h0.next
 fb:h0.next≤b
 nx:h.floor≤h.next
 low:∀id,id<h0.next→h.get id=h0.get id
 ck:D k=I (xw p k)
 own:nJ h (D 16) (ints (S0++syms p k))
 nb:(D 16).id?≠some b
theorem Ho (h0 : H) (b : Nat) (x : AV) (l : List Int) (hl : l.length < 1000) (hx : Rd h0 x (ints l)) (k : Nat) (hk1 : 1 ≤ k) (hk : k ≤ 15) (S0 : List Int) (hS0 : S0.length ≤ 15000) : ∀ (q p : List Int) (D : Nat → AV) (h : H), l = p ++ q → Si h0 h b D k p S0 →
 ∃e' h' D',Lp AP.A [0,3,4,5] AP.f21L0 [(0,x),(3,.aD b 0),(4,I k),(5,I p.length)] h=some (.exit 2,e',h')∧look e' 0=x∧look e' 3=.aD b 0∧look e' 4=I k∧Si h0 h' b D' k l S0∧∀i,i<16→i≠k→D' i=D i
 | [], p, D, h, hp, bo => by
   rw[XZ]at hp;subst hp
   refine⟨[(0,x),(3,.aD b 0),(4,I k),(5,I l.length),(15,.bool false)],h,D,tM ?_,rfl,rfl,rfl,bo,fun _ _ _=>rfl⟩
   have ln:=hx.len
   rw[pY]at ln
   have c1:¬(l.length:Int)<(l.length:Int):=by omega
   simp only[I]at *
   simp only[AP.f21L0,go_sem,ln,XP c1]
 | y :: q, p, D, h, hp, bo => by
   have ln:=hx.len
   rw[pY]at ln
   have hlen:l.length=p.length+(q.length+1):=by rw[hp];simp
   have c1:(p.length:Int)<(l.length:Int):=by omega
   have hv:(ints l)[p.length]?=some (I y):=tu (by rw[hp];simp)
   obtain⟨ad,p1,p2⟩:=hx.elem hv
   have hlow:∀id c,h0.get id=some c→h.get id=some c:=fun id c q=>by rw[bo.low id (h0.lt id c q)];exact q
   have p3:=p2 h hlow
   have w1:IntKind.wrap .i64 ((p.length:Int)+1)=(((p++[y]).length:Nat):Int):=by
    rw[vI];exact vL (n:=p.length+1) (by omega)
   have hcn:=AA p y k
   have hsn:=AW p y k
   by_cases hy:y=(k:Int)
   · have cb := uI hy
     have hcl:=Ay p k
     rw[if_pos ⟨by omega,hy⟩]at hcn hsn
     have w2:IntKind.wrap .i64 ((xw p k:Int)+1)=((xw p k+1:Nat):Int):=vL (n:=xw p k+1) (by omega)
     have a1:cN (I k) 16=some k:=kj (by omega)
     have g1:(nK 17 D)[k]?=some (I (xw p k)):=by rw[fK (by omega),bo.ck]
     have hfb:h.floor≤b:=by rw[bo.fl];exact bo.fb
     obtain⟨D1,eD1⟩:∃E,E=uF D k (I (xw p k+1:Nat)):=⟨_,rfl⟩
     have O7:uD h b k 1 [I (xw p k+1:Nat)] (some (nK 17 D))=some (h.set b (nK 17 D1)):=by
      rw[uU hfb (by rw[rO];omega) rfl,uc (by omega),←eD1]
     obtain⟨h1,eh1⟩:∃g,g=h.set b (nK 17 D1):=⟨_,rfl⟩
     have hbn:b<h.next:=h.lt _ _ bo.get
     have g2:h1.get b=some (nK 17 D1):=by rw[eh1,H.dp,if_pos rfl,bo.get];rfl
     have d16:D1 16=D 16:=by rw[eD1,uF,if_neg (by omega)]
     have g3:(nK 17 D1)[16]?=some (D 16):=by rw[fK (by omega),d16]
     obtain⟨h2,eh2⟩:∃g,g=h1.alloc [I p.length]:=⟨_,rfl⟩
     have hn1:h1.next=h.next:=by rw[eh1];simp
     have hlo2:∀i,i≠b→i≠h.next→h2.get i=h.get i:=fun i q1 q2=>by rw[eh2,H.aW,hn1,if_neg q2,eh1,H.dp,if_neg q1]
     have hfl2:h2.floor=h.floor:=by rw[eh2,eh1];simp
     have hnx2:h2.next=h.next+1:=by rw[eh2,eh1];simp
     have o2:nJ h2 (D 16) (ints (S0++syms p k)):=bo.own.mono hfl2 fun i hi=>hlo2 i (fun e=>bo.nb (e ▸ hi)) (by have:=bo.own.lt hi;omega)
     have hsl:=BN p k
     have hnxf:=bo.nx
     obtain⟨v',h3,q1,q2,q3,q4,q5,q6⟩:=o2.app (by omega) (z:=8) (I p.length) rfl (by simp [roomy];omega)
     have src:aS h2 1 (.aE h1.next 0 1 1)=some (1,[I p.length]):=by simp [aS,eh2,H.aW]
     have ap:kM h2 1 8 (D 16) (.aE h1.next 0 1 1)=some (v',h3):=by unfold kM;rw[src,vi];exact q1
     have g4:h3.get b=some (nK 17 D1):=by
      rw[q5 b bo.nb (by omega),eh2,H.aW,if_neg (by omega)];exact g2
     have hv':v'.cells=[v']∧v'.sc=true:=by
      rcases q2 with ⟨rfl,_⟩|⟨id,rfl,_⟩<;>exact⟨rfl,rfl⟩
     obtain⟨D2,eD2⟩:∃E,E=uF D1 16 v':=⟨_,rfl⟩
     have hfb3:h3.floor≤b:=by rw[q3,hfl2];exact hfb
     have st2:uD h3 b 16 1 v'.cells (some (nK 17 D1))=some (h3.set b (nK 17 D2)):=by
      rw[hv'.1,uU hfb3 (by rw[rO];omega) hv'.2,uc (by omega),←eD2]
     have bt:∀e:Env,look e 39=.int .i64 p.length→aY e (.cD 1 1 [.int .i64 0] [(0,.t 39)])=some ([.int .i64 p.length],fun i=>.aE i 0 1 1):=by
      intro e q;simp only[aY,XX,Yk,sI,q];rfl
     have step:aL (aR AP.A) bq AP.f21L0 (ay [(0,x),(3,.aD b 0),(4,I k),(5,I p.length)] [0,3,4,5]) h=some (.normal,[(0,x),(3,.aD b 0),(4,I k),(5,I (p++[y]).length)],h3.set b (nK 17 D2)):=by
      have gb:=bo.get
      generalize nK 17 D=T0 at *
      generalize nK 17 D1=T1 at *
      generalize nK 17 D2=T2 at *
      generalize (p++[y]).length=B at *
      generalize D 16=dv at *
      simp only[I]at *
      simp only[AP.f21L0,go_sem,ln,XS c1,p1,p3,cb,a1,gb,g1,w2,O7,←eh1,g2,g3]
      rw[bt _ rfl]
      simp only[go_sem,←eh2,ap,g4,st2,w1]
     have bo2:Si h0 (h3.set b (nK 17 D2)) b D2 k (p++[y]) S0:=by
      refine⟨by rw[H.dp,if_pos rfl,g4];rfl,by simp [q3,hfl2,bo.fl],bo.fb,by simp;omega,fun id hid=> ?_, ?_, ?_, ?_⟩
      · have hd:id≠b:=by have:=bo.fb;omega
        rw[H.dp,if_neg hd]
        have hidn:id<h.next:=by have:=bo.fb;omega
        by_cases hq:(D 16).id?=some id
        · exfalso
          have hfloor:h.floor≤id:=by
           rcases bo.own with ⟨e,_⟩|⟨j,e,_,hj,_⟩
           · rw[e]at hq;cases hq
           · rw[e]at hq;obtain rfl:=u6 hq;exact hj
          rw[bo.fl]at hfloor;omega
        · rw[q5 id hq (by omega),hlo2 id hd (by omega),bo.low id hid]
      · rw[eD2,uF,if_neg (by omega),eD1,uF,if_pos rfl,hcn]
      · rw[eD2,uF,if_pos rfl]
        have:ints (S0++syms (p++[y]) k)=ints (S0++syms p k)++[I p.length]:=by rw[hsn,←XV,pX];rfl
        rw[this]
        refine q2.mono (by simp) fun i hi=> ?_
        rw[q6]at hi;cases hi
        rw[H.dp,if_neg (by omega)]
      · rw[eD2,uF,if_pos rfl,q6];intro e;have:=u6 e;omega
     obtain⟨e',h',D',r1,r2,r3,r4,r5,r6⟩:=Ho h0 b x l hl hx k hk1 hk S0 hS0 q (p++[y]) D2 _ (by rw[hp];simp) bo2
     exact⟨e',h',D',tN step r1,r2,r3,r4,r5,fun i h1 h2=>by rw[r6 i h1 h2,eD2,uF,if_neg (by omega),eD1,uF,if_neg h2]⟩
   · have cb:=uH hy
     rw[if_neg (fun q=>hy q.2),Nat.add_zero]at hcn
     rw[if_neg (fun q=>hy q.2),XZ]at hsn
     have step:aL (aR AP.A) bq AP.f21L0 (ay [(0,x),(3,.aD b 0),(4,I k),(5,I p.length)] [0,3,4,5]) h=some (.normal,[(0,x),(3,.aD b 0),(4,I k),(5,I (p++[y]).length)],h):=by
      generalize (p++[y]).length=B at *
      simp only[I]at *
      simp only[AP.f21L0,go_sem,ln,XS c1,p1,p3,cb,w1]
     have bo2:Si h0 h b D k (p++[y]) S0:=⟨bo.get,bo.fl,bo.fb,bo.nx,bo.low,by rw[hcn];exact bo.ck,by rw[hsn];exact bo.own,bo.nb⟩
     obtain⟨e',h',D',r1,r2,r3,r4,r5,r6⟩:=Ho h0 b x l hl hx k hk1 hk S0 hS0 q (p++[y]) D _ (by rw[hp];simp) bo2
     exact⟨e',h',D',tN step r1,r2,r3,r4,r5,r6⟩
theorem Hq (n:Nat):xw [] n=0:=by unfold xw;split<;>rfl
theorem Oc (n:Nat):syms [] n=[]:=by unfold syms;split<;>rfl
theorem Im (h0 : H) (b : Nat) (x : AV) (l : List Int) (hl : l.length < 1000) (hx : Rd h0 x (ints l)) : ∀ (m k : Nat) (D : Nat → AV) (h : H), k + m = 16 → 1 ≤ k →
 h.get b=some (nK 17 D)→h.floor=h0.next→h0.next≤b→h.floor≤h.next→(∀id,id<h0.next→h.get id=h0.get id)→(∀i,i<k→D i=I (xw l i))→(∀i,k≤i→i<16→D i=I 0)→nJ h (D 16) (ints (flat l (k-1)))→(D 16).id?≠some b→
 ∃e' h' D',Lp AP.A [0,3,4] AP.f21L1 [(0,x),(3,.aD b 0),(4,I k)] h=some (.exit 0,e',h')∧look e' 3=.aD b 0∧h'.get b=some (nK 17 D')∧h'.floor=h0.next∧(∀i,i<16→D' i=I (xw l i))∧nJ h' (D' 16) (ints (flat l 15))
 | 0, k, D, h, hk, hk1, hg, hf, hfb, hnx, hlow, hc, hz, ho, hnb => by
   obtain rfl:k=16:=by omega
   refine⟨[(0,x),(3,.aD b 0),(4,I 16),(9,.bool false)],h,D,tM ?_,rfl,hg,hf,hc,ho⟩
   have c1:¬(((16:Nat):Int)≤15):=by omega
   simp only[I]at *
   simp only[AP.f21L1,go_sem,XP c1]
   rfl
 | m + 1, k, D, h, hk, hk1, hg, hf, hfb, hnx, hlow, hc, hz, ho, hnb => by
   have c1:(k:Int)≤15:=by omega
   have hfl:=Bw l (k-1)
   have hS0:(flat l (k-1)).length≤15000:=by
    have:(k-1)* l.length≤15* 1000:=Yx (by omega) (by omega)
    omega
   have bo:Si h0 h b D k [] (flat l (k-1)):=⟨hg,hf,hfb,hnx,hlow,by rw[Hq,hz k (vm _) (by omega)];rfl,by rw[Oc,XZ];exact ho,hnb⟩
   obtain⟨e1,h1,D1,r1,r2,r3,r4,r5,r6⟩:=Ho h0 b x l hl hx k hk1 (by omega) _ hS0 l [] D h rfl bo
   have r1':Lp AP.A [0,3,4,5] AP.f21L0 [(0,x),(3,.aD b 0),(4,I k),(5,I 0)] h=some (.exit 2,e1,h1):=r1
   clear r1
   have w1:IntKind.wrap .i64 ((k:Int)+1)=((k+1:Nat):Int):=vL (n:=k+1) (by omega)
   have step:aL (aR AP.A) bq AP.f21L1 (ay [(0,x),(3,.aD b 0),(4,I k)] [0,3,4]) h=some (.normal,[(0,x),(3,.aD b 0),(4,I (k+1:Nat))],h1):=by
    simp only[I]at *
    simp only[AP.f21L1,go_sem,XS c1,sG,r1',r2,r3,r4,w1]
   have hfk:flat l (k+1-1)=flat l (k-1)++syms l k:=by
    obtain⟨j,rfl⟩:∃j,k=j+1:=⟨k-1,by omega⟩
    rfl
   obtain⟨e',h',D',q1,q2,q3,q4,q5,q6⟩:=Im h0 b x l hl hx m (k+1) D1 h1 (by omega) (by omega) r5.get r5.fl r5.fb r5.nx r5.low
    (fun i hi=>by
      by_cases e:i=k
      · subst e;exact r5.ck
      · rw[r6 i (by omega) e];exact hc i (by omega))
    (fun i h1 h2=>by rw[r6 i h2 (by omega)];exact hz i (by omega) h2) (by rw[hfk];exact r5.own) r5.nb
   exact⟨e',h',D',tN step q1,q2,q3,q4,q5,q6⟩
def Vv:Nat→AV:=fun i=>if i<16 then I 0 else .aP
theorem Bj (h : H) (x : AV) (l : List Int) (hl : l.length < 1000) (hx : Rd h x (ints l)) : aR AP.A 21 [x] h = some (wq l, h) := by
 obtain⟨h1,eh1⟩:∃g,g=h.dN.alloc (nK 17 Vv):=⟨_,rfl⟩
 have hg1:h1.get h.next=some (nK 17 Vv):=by rw[eh1,H.aW,if_pos (show h.next=h.dN.next from rfl)]
 obtain⟨e',h2,D,q1,q2,q3,q4,q5,q6⟩:=Im h h.next x l hl hx 15 1 Vv h1 rfl (by omega) hg1 (by rw[eh1];simp) (vm _) (by rw[eh1];simp)
  (fun id hid=>by rw[eh1,H.aW,if_neg (by show id≠h.next;omega)];rfl)
  (fun i hi => by obtain rfl : i = 0 := by omega
                  rfl)
  (fun i h1 h2=>by simp only[Vv,if_pos h2]) (.inl ⟨rfl,rfl⟩) (by intro e;cases e)
 have q1':Lp AP.A [0,3,4] AP.f21L1 [(0,x),(3,.aD h.next 0),(4,I 1)] h1=some (.exit 0,e',h2):=q1
 clear q1
 refine uz (fn:=AP.f21) (h2:=h2) (e:=[(2,.aD h.next 0)]) (vs:=[.aD h.next 0]) rfl rfl rfl ?_ rfl ?_
 · unfold AP.f21
   refine uR (e1:=[(0,x)]) (h1:=h.dN) rfl ?_
   refine uR (e1:=[(0,x),(3,.aD h.next 0)]) (h1:=h1) (by rw[eh1];rfl) ?_
   simp only[I]at *
   simp only[go_sem,sG,q1',q2]
 · show snap h2.get h.next 16 true (.aD h.next 0)=_
   have hm:fD (snap h2.get h.next 15 false) (nK 17 D)=some (nK 17 (NP l)):=by
    refine K9 17 fun i hi=> ?_
    by_cases c1:i<16
    · rw[q5 i c1,NP,if_pos c1];rfl
    · obtain rfl:i=16:=by omega
      rw[NP,if_neg (by omega)]
      exact JD (n:=13) q6 (by rw[q4];exact vm _) (yA _ _ _ _ _)
   simp only[snap,if_neg (Nat.lt_irrefl _),q3,vi,hm,wq]
end Ab
