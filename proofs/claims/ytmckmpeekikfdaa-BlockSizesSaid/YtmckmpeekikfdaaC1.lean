/- Part C1. -/
import Derived.KernelRfl
import Derived.Test.YtmckmpeekikfdaaAP
set_option linter.unusedSimpArgs false
set_option linter.unusedVariables false
namespace Ab
open Go
theorem QH:type_of% @List.getD_eq_getElem?_getD:= @List.getD_eq_getElem?_getD
theorem QI:type_of% @List.length_cons:= @List.length_cons
theorem QJ:type_of% @List.getElem?_eq_getElem:= @List.getElem?_eq_getElem
theorem QK:type_of% @List.length_nil:= @List.length_nil
theorem QL:type_of% @decide_eq_false:= @decide_eq_false
theorem QM:type_of% @Option.map_some:= @Option.map_some
theorem QN:type_of% @decide_eq_true:= @decide_eq_true
theorem QO:type_of% @List.flatMap_cons:= @List.flatMap_cons
theorem QP:type_of% @Int.eq_ofNat_of_zero_le:= @Int.eq_ofNat_of_zero_le
theorem QQ:type_of% @List.map_cons:= @List.map_cons
theorem QR:type_of% @List.mem_map:= @List.mem_map
theorem QS:type_of% @List.getElem?_append_left:= @List.getElem?_append_left
theorem QT:type_of% @List.getElem?_append_right:= @List.getElem?_append_right
theorem QU:type_of% @List.append_assoc:= @List.append_assoc
theorem QV:type_of% @List.getElem?_eq_none:= @List.getElem?_eq_none
theorem QW:type_of% @List.getElem?_set:= @List.getElem?_set
theorem QX:type_of% @List.length_replicate:= @List.length_replicate
theorem QY:type_of% @List.getElem_mem:= @List.getElem_mem
theorem QZ:type_of% @Nat.pow_le_pow_right:= @Nat.pow_le_pow_right
theorem Q0:type_of% @List.append_nil:= @List.append_nil
theorem Q1:type_of% @Classical.byContradiction:= @Classical.byContradiction
theorem Q2:type_of% @List.drop_zero:= @List.drop_zero
theorem Q3:type_of% @List.length_set:= @List.length_set
theorem Q4:type_of% @List.eq_nil_of_length_eq_zero:= @List.eq_nil_of_length_eq_zero
theorem Q5:type_of% @List.getElem?_replicate:= @List.getElem?_replicate
theorem Q6:type_of% @List.sum_cons:= @List.sum_cons
theorem Q7:type_of% @List.mem_append:= @List.mem_append
theorem Q8:type_of% @List.eq_of_mem_replicate:= @List.eq_of_mem_replicate
theorem Q9:type_of% @List.length_take:= @List.length_take
theorem Ra:type_of% @List.getElem?_range:= @List.getElem?_range
theorem Rb:type_of% @List.map_congr_left:= @List.map_congr_left
theorem Rc:type_of% @List.mem_or_eq_of_mem_set:= @List.mem_or_eq_of_mem_set
theorem Re:type_of% @List.mem_iff_getElem:= @List.mem_iff_getElem
theorem Rf:type_of% @List.mem_cons_of_mem:= @List.mem_cons_of_mem
theorem Rg:type_of% @Option.map_none:= @Option.map_none
theorem Rh:type_of% @List.Perm.refl:= @List.Perm.refl
theorem Ri:type_of% @Int.le_refl:= @Int.le_refl
theorem Rj:type_of% @congrArg:= @congrArg
theorem Rk:type_of% @List.length_map:= @List.length_map
theorem Rl:type_of% @List.map_nil:= @List.map_nil
theorem Rm:type_of% @List.nodup_cons:= @List.nodup_cons
theorem Rn:type_of% @List.take_zero:= @List.take_zero
attribute [local congr] sM
def wk (l:List Int) (n:Nat):Nat:=if n=0 then 0 else l.countP (fun x=>x==(n:Int))
def syms (l:List Int) (n:Nat):List Int:=if n=0 then []else l.zipIdx.filterMap fun p=>if p.1=(n:Int)then some (p.2:Int)else none
theorem yM (p:List Int) (x:Int) (n:Nat):wk (p++[x]) n=wk p n+if n≠0∧x=(n:Int)then 1 else 0:=by
 unfold wk
 by_cases hn:n=0
 · simp [hn]
 · simp [hn,List.countP_append,List.countP_cons]
theorem zm (p:List Int) (x:Int) (n:Nat):syms (p++[x]) n=syms p n++if n≠0∧x=(n:Int)then [(p.length:Int)]else []:=by
 unfold syms
 by_cases hn:n=0
 · simp [hn]
 · simp [hn,List.zipIdx_append,List.filterMap_append]
   split<;>simp_all
theorem FX (l:List Int) (n:Nat):(syms l n).length≤l.length:=by
 unfold syms
 split
 · simp
 · refine uQ (List.length_filterMap_le _ _) ?_
   simp
theorem zy (l:List Int) (n:Nat):wk l n≤l.length:=by
 unfold wk
 split
 · omega
 · exact List.countP_le_length
structure Bk (h0 h:H) (b:Nat) (C:Nat→AV) (p:List Int):Prop where
 get:h.get b=some (mY 49 C)
 fl:h.floor=h0.next
 fb:h0.next≤b
 nx:h.floor≤h.next
 low:∀id,id<h0.next→h.get id=h0.get id
 Ib:∀n,n<16→C (16+n)=I (wk p n)
 own:∀n,n<16→mX h (C (32+n)) (ints (syms p n))
 nb:∀n,n<16→(C (32+n)).id?≠some b
 JN:∀n m,n<16→m<16→n≠m→∀i,(C (32+n)).id?=some i→(C (32+m)).id?≠some i
set_option maxHeartbeats 1000000 in
theorem HU (h0 h : H) (b : Nat) (C : Nat → AV) (p : List Int) (n : Nat) (x : AV) (N : Int) (bk : Bk h0 h b C p) (hn1 : 0 < n) (hn : n < 16) (hp : p.length < 100000) (hel : ∃ a, fC 1 x (I p.length) = some a ∧ ∀ g : H, (∀ id c, h0.get id = some c → g.get id = some c) → bN false 1 a g = some (I n)) (hN : (p.length : Int) < N) :
 ∃h' C',aK (aQ AP.A) bo AP.f41L1 [(3,.aC b 0),(10,x),(11,I N),(12,I p.length)] h=some (.normal,[(3,.aC b 0),(10,x),(11,I N),(12,I (p.length+1))],h')∧Bk h0 h' b C' (p++[(n:Int)])∧∀i,(i<16∨i=48)→C' i=C i:=by
 obtain⟨a,ha1,ha2⟩:=hel
 have hlow:∀id c,h0.get id=some c→h.get id=some c:=fun id c q=>by rw[bk.low id (h0.lt id c q)];exact q
 have hld:=ha2 h hlow
 have hx:cG (I n) 16=some n:=jW hn
 have g1:(mY 49 C)[16+n]?=some (I (wk p n)):=by rw[fA (by omega),bk.Ib n hn]
 have hcl:=zy p n
 have hw:IntKind.wrap .i64 ((wk p n:Int)+1)=wk p n+1:=s9 (by omega) (by omega)
 have hw2:IntKind.wrap .i64 ((p.length:Int)+1)=p.length+1:=s9 (by omega) (by omega)
 have hfb:h.floor≤b:=by rw[bk.fl];exact bk.fb
 have hs1:(mY 49 C).set (16+n) (I (wk p n+1))=mY 49 (tG C (16+n) (I (wk p n+1))):=s8 (by omega) _
 obtain⟨C1,eC1⟩:∃D,D=tG C (16+n) (I (wk p n+1)):=⟨_,rfl⟩
 rw[←eC1]at hs1
 obtain⟨h1,eh1⟩:∃g,g=(h.set b (mY 49 C1)).alloc [I p.length]:=⟨_,rfl⟩
 have hbn:b<h.next:=h.lt _ _ bk.get
 have hb1:h1.get b=some (mY 49 C1):=by
  rw[eh1,H.aV,H.je,if_neg (by omega),H.dd,if_pos rfl,bk.get];rfl
 have hC1:C1 (32+n)=C (32+n):=by rw[eC1,tG,if_neg (by omega)]
 have hlo1:∀i,i≠b→i≠h.next→h1.get i=h.get i:=fun i q1 q2=>by
  rw[eh1,H.aV,H.je,if_neg q2,H.dd,if_neg q1]
 have hfl1:h1.floor=h.floor:=by rw[eh1];simp
 have hnx1:h1.next=h.next+1:=by rw[eh1];simp
 have ho1:∀m,m<16→mX h1 (C (32+m)) (ints (syms p m)):=fun m hm=>
  (bk.own m hm).mono hfl1 fun i hi=>hlo1 i (fun e=>bk.nb m hm (e ▸ hi)) (by have:=(bk.own m hm).lt hi;omega)
 have hsl:=FX p n
 have hnxf:=bk.nx
 obtain⟨v',h2,q1,q2,q3,q4,q5,q6⟩:=(ho1 n hn).app (by omega) (z:=8) (I p.length) rfl (by simp [roomy];omega)
 have g2:(mY 49 C1)[32+n]?=some (C (32+n)):=by rw[fA (by omega),hC1]
 have hb2:h2.get b=some (mY 49 C1):=by rw[q5 b (bk.nb n hn) (by omega)];exact hb1
 have hs2:(mY 49 C1).set (32+n) v'=mY 49 (tG C1 (32+n) v'):=s8 (by omega) _
 have hfl2:h2.floor≤b:=by have:=bk.fb;have:=bk.fl;omega
 have hv':v'.cells=[v']∧v'.sc=true:=by
  rcases q2 with ⟨rfl,_⟩|⟨id,rfl,_⟩<;>exact⟨rfl,rfl⟩
 have b1:16+n≤48:=by omega
 have b2:32+n≤48:=by omega
 have hal:(h.set b (mY 49 C1)).get b=some (mY 49 C1):=by rw[H.dd,if_pos rfl,bk.get];rfl
 have hal2:h1.get h.next=some [I p.length]:=by rw[eh1,H.aV,H.je,if_pos rfl]
 refine⟨h2.set b (mY 49 (tG C1 (32+n) v')),tG C1 (32+n) v', ?_, ?_,fun i hi=>by rw[tG,if_neg (by omega),eC1,tG,if_neg (by omega)]⟩
 · simp only[I]at *
   simp [AP.f41L1,aK,au,aM,ai,ah,bm,aX,ha1,hld,hN,hn1,hx,bk.get,g1,hw,hw2,hfb,hs1,dx,dH,kd,aR,H.aV,bR.aN,b1,b2,hal,g2,←eh1,hal2,q1,hb2,hs2,hfl2,hv'.1,hv'.2]
 · refine⟨by rw[H.dd,if_pos rfl,hb2];rfl,by simp;rw[q3,hfl1,bk.fl],bk.fb,by simp;omega,fun id hid=> ?_,fun m hm=> ?_,fun m hm=> ?_,fun m hm=> ?_,fun m k hm hk hne i hi=> ?_⟩
   · have hfb':=bk.fb
     have hfl':=bk.fl
     rw[H.dd,if_neg (by omega),q5 id ?_ (by omega),hlo1 id (by omega) (by omega),bk.low id hid]
     intro hi
     rcases bk.own n hn with ⟨e,_⟩|⟨k,e,_,q⟩
     · rw[e]at hi;cases hi
     · rw[e]at hi;cases hi;have:=q.1;omega
   · rw[tG,if_neg (by omega),eC1,tG,yM]
     by_cases e:m=n
     · subst e;rw[if_pos rfl,if_pos ⟨by omega,rfl⟩];simp
     · rw[if_neg (by omega),bk.Ib m hm,if_neg (by omega)];simp
   · have hm32:tG C1 (32+n) v' (32+m)=if m=n then v' else C (32+m):=by
      simp only[tG]
      by_cases e:m=n
      · rw[if_pos (by omega),if_pos e]
      · rw[if_neg (by omega),if_neg e,eC1,tG,if_neg (by omega)]
     rw[hm32,zm]
     by_cases e:m=n
     · subst e
       rw[if_pos rfl,if_pos ⟨by omega,rfl⟩,pf]
       refine q2.mono (by simp) fun i hi=> ?_
       rw[H.dd,if_neg]
       intro e2;subst e2;rw[q6]at hi;cases hi;omega
     · rw[if_neg e,if_neg (by omega),Q0]
       refine(ho1 m hm).mono (by simp;omega) fun i hi=> ?_
       have hlt:=(bk.own m hm).lt hi
       rw[H.dd,if_neg (fun (e2:i=b)=>bk.nb m hm (e2 ▸ hi)),q5 i (bk.JN m n hm hn e i hi) (by omega)]
   · have hm32:tG C1 (32+n) v' (32+m)=if m=n then v' else C (32+m):=by
      simp only[tG]
      by_cases e:m=n
      · rw[if_pos (by omega),if_pos e]
      · rw[if_neg (by omega),if_neg e,eC1,tG,if_neg (by omega)]
     rw[hm32]
     by_cases e:m=n
     · rw[if_pos e,q6];intro e2;cases e2;omega
     · rw[if_neg e];exact bk.nb m hm
   · have hm32:∀m,tG C1 (32+n) v' (32+m)=if m=n then v' else C (32+m):=fun m=>by
      simp only[tG]
      by_cases e:m=n
      · rw[if_pos (by omega),if_pos e]
      · rw[if_neg (by omega),if_neg e,eC1,tG,if_neg (by omega)]
     rw[hm32]at hi ⊢
     by_cases e:m=n
     · rw[if_pos e,q6]at hi
       cases hi
       rw[if_neg (by omega)]
       intro e2;have:=(bk.own k hk).lt e2;omega
     · rw[if_neg e]at hi
       by_cases e3:k=n
       · rw[if_pos e3,q6];intro e2;cases e2;have:=(bk.own m hm).lt hi;omega
       · rw[if_neg e3];exact bk.JN m k hm hk hne i hi
set_option maxHeartbeats 1000000 in
theorem HV (h0 h:H) (b:Nat) (C:Nat→AV) (p:List Int) (x:AV) (N:Int) (bk:Bk h0 h b C p) (hp:p.length<100000) (hel:∃a,fC 1 x (I p.length)=some a∧∀g:H,(∀id c,h0.get id=some c→g.get id=some c)→bN false 1 a g=some (I 0)) (hN:(p.length:Int)<N):
 aK (aQ AP.A) bo AP.f41L1 [(3,.aC b 0),(10,x),(11,I N),(12,I p.length)] h=some (.normal,[(3,.aC b 0),(10,x),(11,I N),(12,I (p.length+1))],h)∧Bk h0 h b C (p++[0]):=by
 obtain⟨a,ha1,ha2⟩:=hel
 have hlow:∀id c,h0.get id=some c→h.get id=some c:=fun id c q=>by rw[bk.low id (h0.lt id c q)];exact q
 have hld:=ha2 h hlow
 have hw2:IntKind.wrap .i64 ((p.length:Int)+1)=p.length+1:=s9 (by omega) (by omega)
 refine⟨?_,⟨bk.get,bk.fl,bk.fb,bk.nx,bk.low,fun n hn=> ?_,fun n hn=> ?_,bk.nb,bk.JN⟩⟩
 · simp only[I]at *
   simp [AP.f41L1,aK,au,aM,ai,ah,ha1,hld,hN,hw2]
 · rw[bk.Ib n hn,yM,if_neg (by omega)];simp
 · have:=bk.own n hn
   rw[zm,if_neg (by omega),Q0];exact this
theorem Dx (h0 : H) (b : Nat) (x : AV) (l : List Int) (hl : l.length < 100000) (hr : ∀ y ∈ l, 0 ≤ y ∧ y < 16) (hx : Rd h0 x (ints l)) : ∀ (m : Nat) (p q : List Int) (C : Nat → AV) (h : H), l = p ++ q → q.length = m → Bk h0 h b C p →
 ∃h' C' e',Lp AP.A [3,10,11,12] AP.f41L1 [(3,.aC b 0),(10,x),(11,I l.length),(12,I p.length)] h=some (.exit 0,e',h')∧look e' 3=.aC b 0∧Bk h0 h' b C' l∧∀i,(i<16∨i=48)→C' i=C i
 | 0, p, [], C, h, hpq, _, bk => by
   refine⟨h,C, ?_⟩
   have:l=p:=by simpa using hpq
   subst this
   refine⟨_,sK (e':=[(3,.aC b 0),(10,x),(11,I l.length),(12,I l.length),(13,.bool false)]) ?_,rfl,bk,fun _ _=>rfl⟩
   simp [AP.f41L1,aK,au,ai,ah,I]
 | m + 1, p, y :: q, C, h, hpq, hm, bk => by
   have hmem:y∈l:=by rw[hpq];simp
   obtain⟨h1,h2⟩:=hr y hmem
   have hget:l[p.length]?=some y:=by rw[hpq];simp
   have hel:=hx.elem (sg hget)
   have hlen:p.length<l.length:=(uo.1 hget).1
   obtain⟨n,rfl⟩:=QP h1
   have next:∃h' C',aK (aQ AP.A) bo AP.f41L1 [(3,.aC b 0),(10,x),(11,I l.length),(12,I p.length)] h=some (.normal,[(3,.aC b 0),(10,x),(11,I l.length),(12,I (p.length+1))],h')∧Bk h0 h' b C' (p++[(n:Int)])∧∀i,(i<16∨i=48)→C' i=C i:=by
    by_cases hn:n=0
    · subst hn
      have z:=HV h0 h b C p x l.length bk (by omega) hel (by omega)
      exact⟨h,C,z.1,z.2,fun _ _=>rfl⟩
    · exact HU h0 h b C p n x l.length bk (by omega) (by omega) (by omega) hel (by omega)
   obtain⟨h',C',s1,bk',hC'⟩:=next
   have ih:=Dx h0 b x l hl hr hx m (p++[(n:Int)]) q C' h' (by rw[hpq];simp) (by simpa using hm) bk'
   obtain⟨h2,C2,e2,k1,k2,k3,k4⟩:=ih
   exact⟨h2,C2,e2,sL s1 (by simpa using k1),k2,k3,fun i hi=>by rw[k4 i hi,hC' i hi]⟩
def u5 (l:List Int):Nat→Int
 |0=>0
 |n+1=>(u5 l n+wk l n)* 2
def vj (l:List Int):Nat→Int
 |0=>1
 |n+1=>vj l n* 2-wk l (n+1)
theorem AG {l:List Int} (hl:l.length<100000) (n:Nat):0≤u5 l n∧u5 l n≤200000* 2^n-200000:=by
 induction n with
 |zero=>simp [u5]
 |succ n ih=>have:=zy l n;simp only[u5,Int.pow_succ];omega
theorem IZ {l:List Int} (hl:l.length<100000) (n:Nat): -(200000* 2^n-100000)≤vj l n∧vj l n≤2^n:=by
 induction n with
 |zero=>simp [vj]
 |succ n ih=>have:=zy l (n+1);simp only[vj,Int.pow_succ];omega
theorem AS {m:Nat} (hm:m≤15):(2:Int)^m≤32768:=by
 have h:(2:Nat)^m≤2^15:=QZ (by omega) hm
 have h2:((2^m:Nat):Int)≤((2^15:Nat):Int):=Int.ofNat_le.2 h
 simpa using h2
theorem Bk.put {h0 h:H} {b:Nat} {C:Nat→AV} {p:List Int} (bk:Bk h0 h b C p) {i:Nat} (hi:i<16∨i=48) (v:AV):Bk h0 (h.set b (mY 49 (tG C i v))) b (tG C i v) p:=by
 have c:∀j,16≤j→j<48→tG C i v j=C j:=fun j h1 h2=>by rw[tG,if_neg (by omega)]
 have hbn:b<h.next:=h.lt _ _ bk.get
 refine⟨by rw[H.dd,if_pos rfl,bk.get];rfl,by simp [bk.fl],bk.fb,by simp [bk.nx],fun id hid=> ?_,fun n hn=> ?_,fun n hn=> ?_,fun n hn=> ?_,fun n m hn hm hne k hk=> ?_⟩
 · have:=bk.fb
   rw[H.dd,if_neg (by omega)];exact bk.low id hid
 · rw[c _ (by omega) (by omega)];exact bk.Ib n hn
 · rw[c _ (by omega) (by omega)]
   refine(bk.own n hn).mono (by simp) fun k hk=> ?_
   rw[H.dd,if_neg];intro (e:k=b);exact bk.nb n hn (e ▸ hk)
 · rw[c _ (by omega) (by omega)];exact bk.nb n hn
 · rw[c _ (by omega) (by omega)]at hk ⊢;exact bk.JN n m hn hm hne k hk
set_option maxHeartbeats 1000000 in
theorem Gt (h0 h:H) (b:Nat) (C:Nat→AV) (l:List Int) (m:Nat) (bk:Bk h0 h b C l) (hl:l.length<100000) (hm:m<15) (hc:C 48=I (vj l m)):
 aK (aQ AP.A) bo AP.f41L0 [(3,.aC b 0),(6,I (u5 l m)),(7,I (m+1))] h=
  some (.normal,[(3,.aC b 0),(6,I (u5 l (m+1))),(7,I (m+1+1))],(h.set b (mY 49 (tG C (m+1) (I (u5 l (m+1)))))).set b (mY 49 (tG (tG C (m+1) (I (u5 l (m+1)))) 48 (I (vj l (m+1)))))):=by
 have hp:=AS (m:=m) (by omega)
 have hf:=AG hl m
 have hlf:=IZ hl m
 have c1:=zy l m
 have c2:=zy l (m+1)
 have w1:IntKind.wrap .i64 (m:Int)=m:=s9 (by omega) (by omega)
 have w2:IntKind.wrap .i64 (u5 l m+wk l m)=u5 l m+wk l m:=s9 (by omega) (by omega)
 have w3:IntKind.wrap .i64 ((u5 l m+wk l m)* 2)=u5 l (m+1):=s9 (by omega) (by omega)
 have w4:IntKind.wrap .i64 (vj l m* 2)=vj l m* 2:=s9 (by omega) (by omega)
 have w5:IntKind.wrap .i64 (vj l m* 2-wk l (m+1))=vj l (m+1):=s9 (by omega) (by omega)
 have w6:IntKind.wrap .i64 ((m:Int)+1+1)=m+1+1:=s9 (by omega) (by omega)
 have x1:cG (I m) 16=some m:=jW (by omega)
 have x2:cG (I (m+1)) 16=some (m+1):=jW (i:=m+1) (by omega)
 have g1:(mY 49 C)[16+m]?=some (I (wk l m)):=by rw[fA (by omega),bk.Ib m (by omega)]
 obtain⟨C1,e1⟩:∃D,D=tG C (m+1) (I (u5 l (m+1))):=⟨_,rfl⟩
 have s1:(mY 49 C).set (m+1) (I (u5 l (m+1)))=mY 49 C1:=by rw[e1];exact s8 (by omega) _
 have g2:(mY 49 C1)[16+(m+1)]?=some (I (wk l (m+1))):=by rw[fA (by omega),e1,tG,if_neg (by omega),bk.Ib (m+1) (by omega)]
 have g3:(mY 49 C1)[48]?=some (I (vj l m)):=by rw[fA (by omega),e1,tG,if_neg (by omega),hc]
 have g4:C1 48=I (vj l m):=by rw[e1,tG,if_neg (by omega),hc]
 have s2:(mY 49 C1).set 48 (I (vj l (m+1)))=mY 49 (tG C1 48 (I (vj l (m+1)))):=s8 (by omega) _
 have hfb:h.floor≤b:=by rw[bk.fl];exact bk.fb
 have ge:(h.set b (mY 49 C1)).get b=some (mY 49 C1):=by rw[H.dd,if_pos rfl,bk.get];rfl
 have b1:m+1≤48:=by omega
 have b3:m≤47:=by omega
 have b4:m≤14:=by omega
 have b2:(m:Int)+1≤15:=by omega
 rw[←e1]
 simp only[I]at *
 simp [AP.f41L0,aK,au,aM,ai,ah,bk.get,w1,w2,w3,w4,w5,w6,x1,x2,g1,g2,g3,g4,s1,s2,hfb,ge,b1,b2,b3,b4]
theorem Co (h0:H) (b:Nat) (l:List Int) (hl:l.length<100000):∀(k m:Nat) (C:Nat→AV) (h:H),m+k=15→Bk h0 h b C l→C 48=I (vj l m)→(∀i,i≤m→C i=I (u5 l i))→
 ∃h' C' e',Lp AP.A [3,6,7] AP.f41L0 [(3,.aC b 0),(6,I (u5 l m)),(7,I (m+1))] h=some (.exit 2,e',h')∧look e' 3=.aC b 0∧Bk h0 h' b C' l∧C' 48=I (vj l 15)∧∀i,i≤15→C' i=I (u5 l i)
 | 0, m, C, h, hk, bk, hc, hf => by
   obtain rfl:m=15:=by omega
   refine⟨h,C,[(3,.aC b 0),(6,I (u5 l 15)),(7,I 16),(45,.bool false)],sK ?_,rfl,bk,hc,hf⟩
   have e:((15:Nat):Int)+1=16:=rfl
   rw[e]
   simp [AP.f41L0,aK,au,ai,ah,I]
 | k + 1, m, C, h, hk, bk, hc, hf => by
   have st:=Gt h0 h b C l m bk hl (by omega) hc
   have bk1:=(bk.put (i:=m+1) (.inl (by omega)) (I (u5 l (m+1)))).put (i:=48) (.inr rfl) (I (vj l (m+1)))
   obtain⟨h',C',e',k1,k2⟩:=Co h0 b l hl k (m+1) _ _ (by omega) bk1 (by simp [tG]) (fun i hi=>by
    rw[tG,if_neg (by omega),tG]
    by_cases e:i=m+1
    · rw[if_pos e,e]
    · rw[if_neg e];exact hf i (by omega))
   exact⟨h',C',e',sL st (by simpa using k1),k2⟩
def yH (l:List AV):AV:=if l=[]then .aO else .aU false l 0 l.length 1
def wc (l:List Int):Nat→AV:=fun i=>if i<16 then I (u5 l i)else if i<32 then I (wk l (i-16))else if i<48 then yH (ints (syms l (i-32)))else I (vj l 15)
def vp (l:List Int):AV:=.aJ (mY 49 (wc l)) 0
theorem Kf {f:AV→Option AV} {C D:Nat→AV}:∀(n:Nat),(∀i,i<n→f (C i)=some (D i))→fp f (mY n C)=some (mY n D):=by
 have key:∀(l:List Nat),(∀i∈l,f (C i)=some (D i))→fp f (l.map C)=some (l.map D):=by
  intro l
  induction l with
  |nil=>intro _;rfl
  |cons i l ih=>intro h;simp [fp,h i (by simp),ih (fun j hj=>h j (by simp [hj]))]
 exact fun n h=>key _ fun i hi=>h i (List.mem_range.1 hi)
theorem wX (g:Nat→Option (List AV)) (fl n:Nat) (t:Bool):∀l:List Int,fp (snap g fl (n+1) t) (ints l)=some (ints l)
 |[]=>rfl
 | x :: l => by
   have:=wX g fl n t l
   simp only[ints,QQ,fp]at this ⊢
   rw[this];rfl
theorem Js {h:H} {v:AV} {cs:List AV} {fl n:Nat} (o:mX h v cs) (hf:fl≤h.floor) (hm:fp (snap h.get fl (n+1) false) cs=some cs):snap h.get fl (n+2) false v=some (yH cs):=by
 rcases o with ⟨rfl,rfl⟩|⟨id,rfl,hg,hfl,hne⟩
 · rfl
 · have h1:¬id<fl:=by omega
   simp only[snap,if_neg h1,hg,uq,uD,Nat.mul_one,Q2,List.take_length,uw,if_true,hm,yH,if_neg hne]
def C0:Nat→AV:=fun i=>if i<32 then I 0 else if i<48 then .aO else I 1
set_option maxHeartbeats 1000000 in
theorem yT (h : H) (x : AV) (l : List Int) (hl : l.length < 100000) (hr : ∀ y ∈ l, 0 ≤ y ∧ y < 16) (hx : Rd h x (ints l)) : aQ AP.A 41 [x] h = some (vp l, h) := by
 have hb0:Bk h (h.dG.alloc (mY 49 C0)) h.next C0 []:=by
  refine⟨by simp [H.aV],by simp,uw _,by simp,fun id hid=> ?_,fun n hn=> ?_,fun n hn=> ?_,fun n hn=> ?_,fun n m hn hm hne i hi=> ?_⟩
  · rw[H.aV,if_neg (by simp;omega)];rfl
  · simp only[C0,wk,List.countP_nil];rw[if_pos (by omega)];simp
  · simp only[C0];rw[if_neg (by omega),if_pos (by omega)]
    exact .inl ⟨rfl,by unfold syms;split<;>rfl⟩
  · simp only[C0];rw[if_neg (by omega),if_pos (by omega)];exact nofun
  · simp only[C0]at hi;rw[if_neg (by omega),if_pos (by omega)]at hi;cases hi
 obtain⟨h1,D1,e1,k1,k2,bk1,k3⟩:=Dx h h.next x l hl hr hx l.length [] l C0 _ rfl rfl hb0
 obtain⟨h2,D2,e2,k4,k5,bk2,k6,k7⟩:=Co h h.next l hl 15 0 D1 h1 rfl bk1 (by rw[k3 48 (.inr rfl)];rfl) (fun i hi=>by
  obtain rfl:i=0:=by omega
  rw[k3 0 (.inl (by omega))];rfl)
 have kx:aK (aQ AP.A) bo AP.f41.body (params 0 [x]) h.dG=some (.ret,[(2,.aC h.next 0)],h2):=by
  unfold AP.f41
  refine tS (e1:=[(0,x)]) (h1:=h.dG) rfl ?_
  refine tS (e1:=[(0,x),(3,.aC h.next 0)]) (h1:=h.dG.alloc (mY 49 C0)) rfl ?_
  refine tS (e1:=[(3,.aC h.next 0)]) (h1:=h1) ?_ ?_
  · refine tS (e1:=[(3,.aC h.next 0),(10,x),(11,I l.length),(12,I 0)]) (h1:=h.dG.alloc (mY 49 C0)) ?_ ?_
    · simp [aK,au,ai,ah,hx.len,I]
    · have:=pO (k:=[3]) k1
      simp only[qK,re,k2]at this
      exact this
  refine tS (e1:=[(3,.aC h.next 0),(6,I 0)]) (h1:=h1) rfl ?_
  refine tS (e1:=[(3,.aC h.next 0)]) (h1:=h2) ?_ ?_
  · refine tS (e1:=[(3,.aC h.next 0),(6,I 0),(7,I 1)]) (h1:=h1) rfl ?_
    have:=pO (k:=[3]) k4
    simp only[qK,re,k5]at this
    exact this
  exact tS (e1:=[(2,.aC h.next 0)]) (h1:=h2) rfl rfl
 have hsn:snap h2.get h.next 16 true (.aC h.next 0)=some (vp l):=by
  have hm:fp (snap h2.get h.next 15 false) (mY 49 D2)=some (mY 49 (wc l)):=by
   refine Kf 49 fun i hi=> ?_
   by_cases c1:i<16
   · rw[k7 i (by omega),wc,if_pos c1];rfl
   by_cases c2:i<32
   · have:=bk2.Ib (i-16) (by omega)
     rw[show 16+(i-16)=i by omega]at this
     rw[this,wc,if_neg c1,if_pos c2];rfl
   by_cases c3:i<48
   · have:=bk2.own (i-32) (by omega)
     rw[show 32+(i-32)=i by omega]at this
     rw[wc,if_neg c1,if_neg c2,if_pos c3]
     exact Js (n:=13) this (by rw[bk2.fl];exact uw _) (wX _ _ _ _ _)
   · obtain rfl:i=48:=by omega
     rw[k6,wc,if_neg c1,if_neg c2,if_neg c3];rfl
  simp only[snap,if_neg (Nat.lt_irrefl _),bk2.get,uq,hm,vp]
 exact tC (fn:=AP.f41) rfl rfl rfl kx rfl hsn
theorem xz (w n:Nat) (h:n<2^w):(BitVec.ofInt w (n:Int)).toNat=n:=by
 rw[BitVec.ofInt_natCast,BitVec.toNat_ofNat,Nat.mod_eq_of_lt h]
theorem uY {n:Nat} (h:n<9223372036854775808):IntKind.wrap .i64 (n:Int)=n:=s9 (by omega) (by omega)
theorem wrap_u8 {n:Nat} (h:n<256):IntKind.wrap .u8 (n:Int)=n:=by
 have e:IntKind.wrap .u8 (n:Int)=(n:Int)%256:=by simp [IntKind.wrap,IntKind.bits,IntKind.signed]
 rw[e];omega
theorem JU {a b:Nat} (ha:a<9223372036854775808) (hb:b<9223372036854775808):bits .or .i64 (a:Int) (b:Int)=((a|||b:Nat):Int):=by
 have h1:a<2^63:=by simpa using ha
 have h2:b<2^63:=by simpa using hb
 have h3:a|||b<2^63:=Nat.or_lt_two_pow h1 h2
 show IntKind.wrap .i64 (((BitVec.ofInt 64 (a:Int)|||BitVec.ofInt 64 (b:Int)).toNat:Nat):Int)=_
 rw[BitVec.toNat_or,xz 64 a (by omega),xz 64 b (by omega)]
 exact uY (by simpa using h3)
theorem HC {a b:Nat} (ha:a<256) (hb:b<256):bits .and .u8 (a:Int) (b:Int)=((a&&&b:Nat):Int):=by
 have h3:a&&&b<2^8:=Nat.and_lt_two_pow _ (by simpa using hb)
 show IntKind.wrap .u8 (((BitVec.ofInt 8 (a:Int)&&&BitVec.ofInt 8 (b:Int)).toNat:Nat):Int)=_
 rw[BitVec.toNat_and,xz 8 a (by omega),xz 8 b (by omega)]
 exact wrap_u8 (by simpa using h3)
theorem I9 {x b i:Nat} (hx:x<2^i):x|||b* 2^i=x+b* 2^i:=by
 have:=Nat.two_pow_add_eq_or_of_lt hx b
 rw[Nat.or_comm,Nat.mul_comm b,←this,Nat.add_comm]
@[simp] theorem Il {k j : IntKind} {a b : Int} : bh .shr (.int k a) (.int j b) = oN .shr k a b := rfl
@[simp] theorem Ik {k j : IntKind} {a b : Int} : bh .shl (.int k a) (.int j b) = oN .shl k a b := rfl
attribute [go_sem] Ik Il
theorem Nr {a s:Nat} (hs:s≤8):oN .shr .u8 (a:Int) (s:Int)=some (.int .u8 ((a/2^s:Nat):Int)):=by
 unfold oN
 rw[if_neg (by omega)]
 simp only[IntKind.bits,Int.toNat_natCast,Nat.min_eq_left hs]
 congr 2
 rw[Int.fdiv_eq_ediv_of_nonneg _ (Int.pow_nonneg (by omega))]
 simp
theorem Ay {a s:Nat} (hs:s≤64) (h:a* 2^s<9223372036854775808):oN .shl .i64 (a:Int) (s:Int)=some (.int .i64 ((a* 2^s:Nat):Int)):=by
 unfold oN
 rw[if_neg (by omega)]
 simp only[IntKind.bits,Int.toNat_natCast,Nat.min_eq_left hs]
 congr 2
 rw[←uY h];simp
def wE (s:ByteArray) (p:Nat):Nat:=((s[p/8]?).map (·.toNat)).getD 0/2^(p%8)%2
theorem EL (s:ByteArray) (p:Nat):wE s p≤1:=by unfold wE;omega
def u2 (s:ByteArray) (p:Nat):Nat→Nat
 |0=>0
 |n+1=>u2 s p n+wE s (p+n)* 2^n
theorem wB (s:ByteArray) (p:Nat):∀n,u2 s p n<2^n
 |0=>by simp [u2]
 | n + 1 => by
   have h:=wB s p n
   have b:=EL s (p+n)
   have hb:wE s (p+n)=0∨wE s (p+n)=1:=by omega
   rw[u2,Nat.pow_succ]
   rcases hb with hb|hb<;>rw[hb]<;>omega
theorem y6 (l:List Int) (n:Nat):(syms l n).length=wk l n:=by
 have key:∀(l:List Int) (k:Nat),((l.zipIdx k).filterMap fun p=>if p.1=(n:Int)then some (p.2:Int)else none).length=l.countP (fun x=>x==(n:Int)):=by
  intro l
  induction l with
  |nil=>intro k;rfl
  | cons x l ih =>
    intro k
    rw[List.zipIdx_cons,List.filterMap_cons,List.countP_cons]
    by_cases h:x=(n:Int)
    · simp only[if_pos h,QI,ih (k+1)];simp [h]
    · simp only[if_neg h,ih (k+1)];simp [h]
 unfold syms wk
 split
 · rfl
 · exact key l 0
def wU (l:List Int) (n:Nat) (v:Int):Option Int:=if u5 l n≤v then(syms l n)[(v-u5 l n).toNat]? else none
set_option maxHeartbeats 1000000 in
theorem Mc (h:H) (l:List Int) (hl:l.length<100000) (n:Nat) (hn1:1≤n) (hn:n≤15) (v:Int) (hv0:0≤v) (hv:v<1000000):
 aQ AP.A 72 [vp l,I n,I v] h=some (match wU l n v with|some y=>.bJ [I y,.bool true]|none=>.bJ [I 0,.bool false],h):=by
 have hp:=AS hn
 have hf:=AG hl n
 have hc:=zy l n
 have hsc:=y6 l n
 have c1:¬((n:Int)<1):=by omega
 have c2:¬(15:Int)<n:=by omega
 have a1:cG (I n) 16=some n:=jW (by omega)
 have e1:wc l n=I (u5 l n):=by rw[wc,if_pos (by omega)]
 have e2:wc l (16+n)=I (wk l n):=by rw[wc,if_neg (by omega),if_pos (by omega),show 16+n-16=n by omega]
 have e3:wc l (32+n)=yH (ints (syms l n)):=by rw[wc,if_neg (by omega),if_neg (by omega),if_pos (by omega),show 32+n-32=n by omega]
 have g1:(mY 49 (wc l))[n]?=some (I (u5 l n)):=by rw[fA (by omega),e1]
 have g2:(mY 49 (wc l))[16+n]?=some (I (wk l n)):=by rw[fA (by omega),e2]
 have g3:(mY 49 (wc l))[32+n]?=some (yH (ints (syms l n))):=by rw[fA (by omega),e3]
 have hb:vp l=.aJ (mY 49 (wc l)) 0:=rfl
 rw[hb]
 clear hb e1 e2 e3
 generalize mY 49 (wc l)=T at g1 g2 g3 ⊢
 by_cases k1:v<u5 l n
 · have:wU l n v=none:=by rw[wU,if_neg (by omega)]
   rw[this]
   refine sZ (fn:=AP.f72) (e:=[(6,I 0),(7,.bool false)]) rfl rfl rfl ?_ rfl
   simp only[I]at *
   simp only[AP.f72,go_sem,QL c1,QL c2,a1,g1,QN k1]
 have w1:IntKind.wrap .i64 (v-u5 l n)=v-u5 l n:=s9 (by omega) (by omega)
 by_cases k2:(wk l n:Int)≤v-u5 l n
 · have:wU l n v=none:=by rw[wU,if_pos (by omega),QV (by omega)]
   rw[this]
   refine sZ (fn:=AP.f72) (e:=[(6,I 0),(7,.bool false)]) rfl rfl rfl ?_ rfl
   simp only[I]at *
   simp only[AP.f72,go_sem,QL c1,QL c2,a1,g1,g2,QL k1,w1,QN k2]
 · obtain⟨i,hi⟩:∃i:Nat,v-u5 l n=i:=QP (by omega)
   have hil:i<(syms l n).length:=by omega
   obtain⟨y,hy⟩:∃y,(syms l n)[i]?=some y:=⟨_,QJ hil⟩
   have:wU l n v=some y:=by rw[wU,if_pos (by omega),hi,Int.toNat_natCast,hy]
   rw[this]
   have hne:ints (syms l n)≠[]:=by intro e;have:=Rj List.length e;simp at this;simp [this]at hil
   have hs:yH (ints (syms l n))=.aU false (ints (syms l n)) 0 (ints (syms l n)).length 1:=by rw[yH,if_neg hne]
   rw[hs]at g3
   have a2:fC 1 (.aU false (ints (syms l n)) 0 (ints (syms l n)).length 1) (I i)=some (.aJ (ints (syms l n)) i):=by
    simp [fC,jW (show i<(syms l n).length from hil)]
   have g4:=sg hy
   rw[hi]at w1 k2
   refine sZ (fn:=AP.f72) (e:=[(6,I y),(7,.bool true)]) rfl rfl rfl ?_ rfl
   simp only[I]at *
   simp only[AP.f72,go_sem,QL c1,QL c2,a1,g1,g2,QL k1,hi,w1,QL k2,g3,a2,g4]
attribute [local congr] sM
theorem yj (a b:Nat):Int.tdiv (a:Int) (b:Int)=((a/b:Nat):Int):=by simp
theorem CK (a b:Nat):Int.tmod (a:Int) (b:Int)=((a%b:Nat):Int):=by rw[Int.tmod_eq_emod_of_nonneg (by omega)];simp
theorem JX {s:ByteArray} {i:Nat} (h:i<s.size):∃b:UInt8,s[i]?=some b:=⟨s[i],by simp [h]⟩
set_option maxHeartbeats 1000000 in
theorem IM (h:H) (r:Nat) (s:ByteArray) (p x i n:Nat) (hg:h.get r=some [.str s,I p]) (hf:h.floor≤r) (hp:p<8* s.size) (hs:s.size<1125899906842624) (hx:x<2^i) (hi:i<n) (hn:n≤16):
 aK (aQ AP.A) bo AP.f58L0 [(0,.aC r 0),(6,I x),(32,I n),(33,I i)] h=some (.normal,[(0,.aC r 0),(6,I (x+wE s p* 2^i:Nat)),(32,I n),(33,I (i+1:Nat))],h.set r [.str s,I (p+1:Nat)]):=by
 obtain⟨b,hb⟩:=JX (s:=s) (i:=p/8) (by omega)
 have hb8:b.toNat<256:=b.toNat_lt
 have hbit:wE s p=b.toNat/2^(p%8)%2:=by simp [wE,hb]
 have t1:Int.tdiv (p:Int) 8=((p/8:Nat):Int):=yj p 8
 have t2:Int.tmod (p:Int) 8=((p%8:Nat):Int):=CK p 8
 have w1:IntKind.wrap .i64 ((p/8:Nat):Int)=((p/8:Nat):Int):=uY (by omega)
 have a1:cG (I (p/8:Nat)) s.size=some (p/8):=jW (by omega)
 have s1:oN .shr .u8 (b.toNat:Int) ((p%8:Nat):Int)=some (.int .u8 ((b.toNat/2^(p%8):Nat):Int)):=Nr (by omega)
 have hlt:b.toNat/2^(p%8)<256:=Nat.lt_of_le_of_lt (Nat.div_le_self _ _) hb8
 have n1:bits .and .u8 ((b.toNat/2^(p%8):Nat):Int) 1=((wE s p:Nat):Int):=by
  have:=HC (b:=1) hlt (by omega)
  rw[Nat.and_one_is_mod]at this
  rw[hbit];exact this
 have hbl:=EL s p
 have w2:IntKind.wrap .i64 ((wE s p:Nat):Int)=((wE s p:Nat):Int):=uY (by omega)
 have hpow:(2:Nat)^i≤2^16:=QZ (by omega) (by omega)
 have hmul:wE s p* 2^i≤2^i:=by
  have:=uz (2^i) hbl;simpa using this
 have s2:oN .shl .i64 ((wE s p:Nat):Int) (i:Int)=some (.int .i64 ((wE s p* 2^i:Nat):Int)):=Ay (by omega) (by omega)
 have o1:bits .or .i64 (x:Int) ((wE s p* 2^i:Nat):Int)=((x+wE s p* 2^i:Nat):Int):=by
  rw[JU (by omega) (by omega),I9 hx]
 have w3:IntKind.wrap .i64 ((p:Int)+1)=((p+1:Nat):Int):=uY (n:=p+1) (by omega)
 have w4:IntKind.wrap .i64 ((i:Int)+1)=((i+1:Nat):Int):=uY (n:=i+1) (by omega)
 generalize hB:wE s p=B at *
 generalize hD:b.toNat/2^(p%8)=D at *
 generalize hE:p/8=E at *
 generalize hF:p%8=F at *
 generalize hO:x+B* 2^i=O at *
 generalize hM:B* 2^i=W at *
 simp only[I]at *
 simp [AP.f58L0,aK,au,aM,ai,ah,hg,rq,ru,t1,t2,w1,lH,a1,hb,s1,n1,w2,s2,o1,w3,w4,hi,hf]
theorem E7 (r:Nat) (s:ByteArray) (p n:Nat) (hs:s.size<1125899906842624) (hp:p+n≤8* s.size) (hn:n≤16):∀(k i:Nat) (h:H),i+k=n→h.get r=some [.str s,I (p+i:Nat)]→h.floor≤r→
 ∃e',Lp AP.A [0,6,32,33] AP.f58L0 [(0,.aC r 0),(6,I (u2 s p i:Nat)),(32,I n),(33,I i)] h=some (.exit 1,e',h.set r [.str s,I (p+n:Nat)])∧look e' 6=I (u2 s p n:Nat)
 | 0, i, h, hk, hg, hf => by
   obtain rfl:i=n:=by omega
   refine⟨[(0,.aC r 0),(6,I (u2 s p i:Nat)),(32,I i),(33,I i),(34,.bool false)],sK ?_,rfl⟩
   rw[H.jj hg]
   simp [AP.f58L0,aK,au,ai,ah,I]
 | k + 1, i, h, hk, hg, hf => by
   have st:=IM h r s (p+i) (u2 s p i) i n hg hf (by omega) hs (wB s p i) (by omega) hn
   obtain⟨e',k1,k2⟩:=E7 r s p n hs hp hn k (i+1) (h.set r [.str s,I (p+i+1:Nat)]) (by omega) (by rw[H.dd,if_pos rfl,hg];rfl) (by simpa using hf)
   rw[H.set_set]at k1
   exact⟨e',sL st k1,k2⟩
theorem M7 (h:H) (r:Nat) (s:ByteArray) (p n:Nat) (hg:h.get r=some [.str s,I p]) (hf:h.floor≤r) (hs:s.size<1125899906842624) (hp:p+n≤8* s.size) (hn:n≤16):
 aQ AP.A 58 [.aC r 0,I n] h=some (.bJ [I (u2 s p n:Nat),I 0],h.set r [.str s,I (p+n:Nat)]):=by
 obtain⟨e',k1,k2⟩:=E7 r s p n hs hp hn n 0 h (by omega) hg hf
 have l1:=pO (k:=[6]) k1
 simp only[qK,re,k2]at l1
 have c0:¬(n:Int)<0:=by omega
 have c1:¬(16:Int)<n:=by omega
 have w1:IntKind.wrap .i64 (8* (s.size:Int))=((8* s.size:Nat):Int):=uY (n:=8* s.size) (by omega)
 have w2:IntKind.wrap .i64 (((8* s.size:Nat):Int)-p)=((8* s.size-p:Nat):Int):=by
  rw[←Int.ofNat_sub (by omega)];exact uY (by omega)
 have c2:¬((8* s.size-p:Nat):Int)<n:=by omega
 refine sZ (fn:=AP.f58) (e:=[(4,I (u2 s p n:Nat)),(5,I 0)]) rfl rfl rfl ?_ rfl
 unfold AP.f58
 refine tS (e1:=[(0,.aC r 0),(1,I n)]) (h1:=h) rfl ?_
 refine tS (e1:=[(0,.aC r 0),(1,I n)]) (h1:=h) ?_ ?_
 · generalize hM:8* s.size-p=W at *
   generalize hM2:8* s.size=W2 at *
   simp only[I]at *
   simp [aK,au,aM,ai,ah,fm,oT,hg,iH,w1,w2,c0,c1,c2]
 refine tS (e1:=[(0,.aC r 0),(1,I n),(6,I 0)]) (h1:=h) rfl ?_
 refine tS (e1:=[(6,I (u2 s p n:Nat))]) (h1:=h.set r [.str s,I (p+n:Nat)]) ?_ ?_
 · refine tS (e1:=[(0,.aC r 0),(6,I 0),(32,I n),(33,I 0)]) (h1:=h) rfl ?_
   exact l1
 exact tS (e1:=[(4,I (u2 s p n:Nat)),(5,I 0)]) (h1:=h.set r [.str s,I (p+n:Nat)]) rfl rfl
theorem Ka (h:H) (r:Nat) (s:ByteArray) (p n:Nat) (hg:h.get r=some [.str s,I p]) (hs:s.size<1125899906842624) (hp0:p≤8* s.size) (hp:8* s.size<p+n) (hn:n≤16):
 aQ AP.A 58 [.aC r 0,I n] h=some (.bJ [I 0,I 101],h):=by
 have c0:¬(n:Int)<0:=by omega
 have c1:¬(16:Int)<n:=by omega
 have w1:IntKind.wrap .i64 (8* (s.size:Int))=((8* s.size:Nat):Int):=uY (n:=8* s.size) (by omega)
 have w2:IntKind.wrap .i64 (((8* s.size:Nat):Int)-p)=((8* s.size-p:Nat):Int):=by
  rw[←Int.ofNat_sub (by omega)];exact uY (by omega)
 have c2:((8* s.size-p:Nat):Int)<n:=by omega
 refine sZ (fn:=AP.f58) (e:=[(4,I 0),(5,I 101)]) rfl rfl rfl ?_ rfl
 unfold AP.f58
 refine tS (e1:=[(0,.aC r 0),(1,I n)]) (h1:=h) rfl ?_
 refine tT ?_
 generalize hM:8* s.size-p=W at *
 generalize hM2:8* s.size=W2 at *
 simp only[I]at *
 simp [aK,au,aM,ai,ah,fm,oT,hg,iH,w1,w2,c0,c1,c2]
attribute [local congr] sM
theorem vM {A:a7} {f:Nat} {fn:eQ} {args:List AV} {h h2:H} {e:Env} {vs:List AV} (hf:A f=some fn) (hnp:args.length=fn.np) (hp:fn.pure=false)
 (hx:aK (aQ A) bo fn.body (params 0 args) h=some (.normal,e,h2)) (hres:cm e h2 fn.res=some vs):aQ A f args h=some (cZ vs,h2):=by
 refine j2 hf ?_
 unfold eN
 rw[if_pos hnp]
 simp [hp,hx,fin,hres]
def xK (l:List Nat):List AV:=l.map fun (b:Nat)=>AV.int .u8 (b:Int)
@[simp] theorem yq (l : List Nat) : (xK l).length = l.length := by simp [xK]
structure SS where
 at_:Nat
 out:List Nat
 e:Int
structure SC where
 s:Nat
 r:Nat
 text:ByteArray
 most:Int
structure St (c:SC) (S:SS) (h:H) (ov:AV):Prop where
 gs:h.get c.s=some [.aC c.r 0,ov,I c.most,I S.e]
 gr:h.get c.r=some [.str c.text,I S.at_]
 own:mX h ov (xK S.out)
 sr:c.s≠c.r
 fs:h.floor≤c.s
 fr:h.floor≤c.r
 os:ov.id?≠some c.s
 or:ov.id?≠some c.r
 nx:h.floor≤h.next
 sz:c.text.size<1125899906842624
 xW:S.at_≤8* c.text.size
 ol:(S.out.length:Int)≤c.most
 ml:c.most≤900000
structure Fr (c:SC) (h:H) (ov:AV) (h':H) (ov':AV):Prop where
 fl:h'.floor=h.floor
 nx:h.next≤h'.next
 F6:∀id,id<h.next→id≠c.s→id≠c.r→ov.id?≠some id→h'.get id=h.get id
 nb:∀i,ov'.id?=some i→ov.id?=some i∨h.next≤i
theorem Fr.refl (c:SC) (h:H) (ov:AV):Fr c h ov h ov:=⟨rfl,uw _,fun _ _ _ _ _=>rfl,fun _ q=>.inl q⟩
theorem Fr.trans {c:SC} {h1 h2 h3:H} {o1 o2 o3:AV} (a:Fr c h1 o1 h2 o2) (b:Fr c h2 o2 h3 o3):Fr c h1 o1 h3 o3:=by
 refine⟨b.fl.trans a.fl,uQ a.nx b.nx,fun id h4 h5 h6 h7=> ?_,fun i hi=> ?_⟩
 · rw[b.F6 id (Nat.lt_of_lt_of_le h4 a.nx) h5 h6 (fun q=> ?_),a.F6 id h4 h5 h6 h7]
   rcases a.nb id q with q|q
   · exact h7 q
   · omega
 · rcases b.nb i hi with q|q
   · exact a.nb i q
   · exact .inr (uQ a.nx q)
theorem St.Pc {c:SC} {S:SS} {h:H} {ov:AV} (st:St c S h ov) (e:Int):St c {S with e:=e} (h.set c.s [.aC c.r 0,ov,I c.most,I e]) ov∧Fr c h ov (h.set c.s [.aC c.r 0,ov,I c.most,I e]) ov:=by
 refine⟨⟨by rw[H.dd,if_pos rfl,st.gs];rfl,by rw[H.dd,if_neg (Ne.symm st.sr)];exact st.gr,st.own.mono (by simp) fun i hi=> ?_,st.sr,by simpa using st.fs,by simpa using st.fr,st.os,st.or,by simpa using st.nx,st.sz,st.xW,st.ol,st.ml⟩,⟨by simp,by simp,fun id h1 h2 h3 h4=>by rw[H.dd,if_neg h2],fun _ q=>.inl q⟩⟩
 rw[H.dd,if_neg];intro (e:i=c.s);exact st.os (e ▸ hi)
theorem St.Np {c:SC} {S:SS} {h:H} {ov:AV} (st:St c S h ov) {p:Nat} (hp:p≤8* c.text.size):St c {S with at_:=p} (h.set c.r [.str c.text,I p]) ov∧Fr c h ov (h.set c.r [.str c.text,I p]) ov:=by
 refine⟨⟨by rw[H.dd,if_neg st.sr];exact st.gs,by rw[H.dd,if_pos rfl,st.gr];rfl,st.own.mono (by simp) fun i hi=> ?_,st.sr,by simpa using st.fs,by simpa using st.fr,st.os,st.or,by simpa using st.nx,st.sz,hp,st.ol,st.ml⟩,⟨by simp,by simp,fun id h1 h2 h3 h4=>by rw[H.dd,if_neg h3],fun _ q=>.inl q⟩⟩
 rw[H.dd,if_neg];intro (e:i=c.r);exact st.or (e ▸ hi)
def vw (k:Int) (S:SS):SS:=if S.e=0 then {S with e:=k}else S
theorem wJ {c:SC} {S:SS} {h:H} {ov:AV} (st:St c S h ov) (k:Int):∃h',aQ AP.A 45 [.aC c.s 0,I k] h=some (.bJ [],h')∧St c (vw k S) h' ov∧Fr c h ov h' ov:=by
 have gs:=st.gs
 have fs:=st.fs
 by_cases he:S.e=0
 · refine⟨_, ?_,by rw[vw,if_pos he];exact(st.Pc k).1,(st.Pc k).2⟩
   refine vM (fn:=AP.f45) (e:=[]) rfl rfl rfl ?_ rfl
   simp only[I]at *
   simp [AP.f45,params,aK,au,ai,ah,gs,he,fs]
 · refine⟨h, ?_,by rw[vw,if_neg he];exact st,Fr.refl _ _ _⟩
   refine vM (fn:=AP.f45) (e:=[]) rfl rfl rfl ?_ rfl
   simp only[I]at *
   simp [AP.f45,params,aK,au,ai,ah,gs,he,fs]
def u0 (c:SC) (n:Nat) (S:SS):Nat×SS:=if S.at_+n≤8* c.text.size then(u2 c.text S.at_ n,{S with at_:=S.at_+n})else(0,vw 700 S)
theorem IL {c:SC} {S:SS} {h:H} {ov:AV} (st:St c S h ov) {n:Nat} (hn:n≤16):∃h',aQ AP.A 38 [.aC c.s 0,I n] h=some (I ((u0 c n S).1:Nat),h')∧St c (u0 c n S).2 h' ov∧Fr c h ov h' ov:=by
 have gs:=st.gs
 by_cases hp:S.at_+n≤8* c.text.size
 · have g:=M7 h c.r c.text S.at_ n st.gr st.fr st.sz hp hn
   refine⟨_, ?_,by rw[u0,if_pos hp];exact(st.Np hp).1,(st.Np hp).2⟩
   rw[u0,if_pos hp]
   refine sZ (fn:=AP.f38) (e:=[(4,I (u2 c.text S.at_ n:Nat))]) rfl rfl rfl ?_ rfl
   simp only[I]at *
   simp [AP.f38,params,aK,au,ai,ah,gs,aW,g]
 · have g:=Ka h c.r c.text S.at_ n st.gr st.sz st.xW (by omega) hn
   obtain⟨h',k1,k2,k3⟩:=wJ st 700
   refine⟨h', ?_,by rw[u0,if_neg hp];exact k2,k3⟩
   rw[u0,if_neg hp]
   refine sZ (fn:=AP.f38) (e:=[(4,I 0)]) rfl rfl rfl ?_ rfl
   simp only[I]at *
   simp [AP.f38,params,aK,au,ai,ah,gs,aW,g,k1]
def Cx (c:SC) (b:Nat) (S:SS):SS:=
 let T:=if c.most≤S.out.length then vw 701 S else S
 if T.e=0 then {T with out:=T.out++[b]}else T
theorem mX.len {h:H} {v:AV} {cs:List AV} (o:mX h v cs):iH false v=some (I cs.length):=by
 rcases o with ⟨rfl,rfl⟩|⟨id,rfl,_⟩<;>rfl
theorem Jj {c : SC} {S : SS} {h : H} {ov : AV} (st : St c S h ov) {b : Nat} : ∃ h' ov', aQ AP.A 59 [.aC c.s 0, .int .u8 b] h = some (.bJ [], h') ∧ St c (Cx c b S) h' ov' ∧ Fr c h ov h' ov' := by
 have gs0:=st.gs
 have hol:=st.ol
 have hml:=st.ml
 have ln:=st.own.len
 rw[yq]at ln
 by_cases hm:c.most≤S.out.length
 · obtain⟨h1,k1,k2,k3⟩:=wJ st 701
   have he:(vw 701 S).e≠0:=by unfold vw;split<;>simp_all
   have hp:Cx c b S=vw 701 S:=by unfold Cx;simp only[if_pos hm,if_neg he]
   have gs1:=k2.gs
   refine⟨h1,ov, ?_,by rw[hp];exact k2,k3⟩
   refine vM (fn:=AP.f59) (e:=[]) rfl rfl rfl ?_ rfl
   simp only[I]at *
   simp [AP.f59,params,aK,au,aM,ai,ah,gs0,ln,hm,aW,k1,gs1,he]
 by_cases he:S.e=0
 · have hp:Cx c b S={S with out:=S.out++[b]}:=by unfold Cx;simp only[if_neg hm,if_pos he]
   have hsl:c.s<h.next:=h.lt _ _ st.gs
   have hrl:c.r<h.next:=h.lt _ _ st.gr
   obtain⟨h1,eh1⟩:∃g,g=h.alloc [.int .u8 b]:=⟨_,rfl⟩
   have hlo1:∀i,i≠h.next→h1.get i=h.get i:=fun i q=>by rw[eh1,H.aV,if_neg q]
   have hfl1:h1.floor=h.floor:=by rw[eh1];simp
   have hnx1:h1.next=h.next+1:=by rw[eh1];simp
   have ho1:mX h1 ov (xK S.out):=st.own.mono hfl1 fun i hi=>hlo1 i (by have:=st.own.lt hi;omega)
   have hnxf:=st.nx
   obtain⟨v',h2,q1,q2,q3,q4,q5,q6⟩:=ho1.app (by omega) (z:=1) (.int .u8 b) rfl (by simp [roomy];omega)
   have hal2:h1.get h.next=some [.int .u8 b]:=by rw[eh1,H.aV,if_pos rfl]
   have gs1:h1.get c.s=some [.aC c.r 0,ov,I c.most,I S.e]:=by rw[hlo1 _ (by omega)];exact st.gs
   have gs2:h2.get c.s=some [.aC c.r 0,ov,I c.most,I S.e]:=by rw[q5 _ st.os (by omega)];exact gs1
   have gr2:h2.get c.r=some [.str c.text,I S.at_]:=by rw[q5 _ st.or (by omega),hlo1 _ (by omega)];exact st.gr
   have fs2:h2.floor≤c.s:=by have:=st.fs;omega
   have hv':v'.cells=[v']∧v'.sc=true:=by
    rcases q2 with ⟨rfl,_⟩|⟨id,rfl,_⟩<;>exact⟨rfl,rfl⟩
   have hby:xK (S.out++[b])=xK S.out++[.int .u8 b]:=by simp [xK]
   refine⟨h2.set c.s [.aC c.r 0,v',I c.most,I S.e],v', ?_, ?_, ?_⟩
   · refine vM (fn:=AP.f59) (e:=[]) rfl rfl rfl ?_ rfl
     simp only[I]at *
     simp [AP.f59,params,aK,au,aM,ai,ah,bm,aX,dx,dH,kd,aR,gs0,ln,hm,he,←eh1,hal2,gs1,q1,gs2,fs2,hv'.1,hv'.2]
   · rw[hp]
     refine⟨by rw[H.dd,if_pos rfl,gs2];rfl,by rw[H.dd,if_neg (Ne.symm st.sr)];exact gr2, ?_,st.sr,by simpa using fs2,by have:=st.fr;simp;omega, ?_, ?_,by simp;omega,st.sz,st.xW,by simp;omega,st.ml⟩
     · rw[hby]
       refine q2.mono (by simp) fun i hi=> ?_
       rw[q6]at hi;cases hi
       rw[H.dd,if_neg (by omega)]
     · rw[q6];intro e;have:=ue e;omega
     · rw[q6];intro e;have:=ue e;omega
   · refine⟨by simp;omega,by simp;omega,fun id a1 a2 a3 a4=> ?_,fun i hi=> ?_⟩
     · rw[H.dd,if_neg a2,q5 id a4 (by omega),hlo1 id (by omega)]
     · rw[q6]at hi;cases hi;right;omega
 · have hp:Cx c b S=S:=by unfold Cx;simp only[if_neg hm,if_neg he]
   refine⟨h,ov, ?_,by rw[hp];exact st,Fr.refl _ _ _⟩
   refine vM (fn:=AP.f59) (e:=[]) rfl rfl rfl ?_ rfl
   simp only[I]at *
   simp [AP.f59,params,aK,au,aM,ai,ah,gs0,ln,hm,he]
theorem Pw (h:H) (s:ByteArray):aQ AP.A 14 [.str s] h=some (.aC h.next 0,h.alloc [.str s,I 0]):=by
 refine sZ (fn:=AP.f14) (e:=[(2,.aC h.next 0)]) rfl rfl rfl ?_ rfl
 have b:aX [(4,.agg [.str s,I 0]),(3,.str s),(0,.str s)] (.box 2 (.t 4))=some ([.str s,I 0],fun i=>.aC i 0):=rfl
 have f:dH [.str ⟨#[]⟩,.int .i64 0] [(0,1,.str s)]=some [.str s,I 0]:=rfl
 simp only[I]at *
 simp only[AP.f14,go_sem,QQ,Rl,f,b]
theorem JR (h:H) (r:Nat) (s:ByteArray) (p:Nat) (hg:h.get r=some [.str s,I p]) (hf:h.floor≤r) (hs:s.size<1125899906842624) (hp:p≤8* s.size):
 aQ AP.A 16 [.aC r 0] h=some (I 0,h.set r [.str s,I ((p+7)/8* 8:Nat)]):=by
 refine sZ (fn:=AP.f16) (e:=[(2,I 0)]) rfl rfl rfl ?_ rfl
 have w1:IntKind.wrap .i64 ((p:Int)+8)=((p+8:Nat):Int):=uY (n:=p+8) (by omega)
 have w2:IntKind.wrap .i64 (((p+8:Nat):Int)-1)=((p+7:Nat):Int):=by
  rw[show((p+8:Nat):Int)-1=((p+7:Nat):Int)by omega];exact uY (by omega)
 have w3:IntKind.wrap .i64 (((p+7:Nat):Int).tdiv 8)=(((p+7)/8:Nat):Int):=by
  rw[show(8:Int)=((8:Nat):Int)from rfl,yj];exact uY (by omega)
 have w4:IntKind.wrap .i64 ((((p+7)/8:Nat):Int)* 8)=(((p+7)/8* 8:Nat):Int):=by
  rw[show(((p+7)/8:Nat):Int)* 8=(((p+7)/8* 8:Nat):Int)by omega];exact uY (by omega)
 have st:∀v,tE h r 1 1 [.int .i64 v] (some [.str s,.int .i64 p])=some (h.set r [.str s,.int .i64 v]):=fun v=>tV hf (by simp) rfl
 have q:bh .quo (.int .i64 ((p+7:Nat):Int)) (.int .i64 8)=some (.int .i64 (((p+7)/8:Nat):Int)):=by rw[rq _ _ _ (by omega),w3]
 simp only[I]at *
 simp only[AP.f16,go_sem,hg,w1,w2,q,w4,st]
theorem Pl (h:H) (r:Nat) (s:ByteArray) (p:Nat) (hg:h.get r=some [.str s,I p]):aQ AP.A 17 [.aC r 0] h=some (I p,h):=by
 refine sZ (fn:=AP.f17) (e:=[(2,I p)]) rfl rfl rfl ?_ rfl
 simp only[I]at *
 simp only[AP.f17,go_sem,hg]
theorem ya {c:SC} {S:SS} {h:H} {ov:AV} (st:St c S h ov) (n:Nat) (m:Int) (hm:m=n) (hn:n≤16):∃h',aQ AP.A 38 [.aC c.s 0,I m] h=some (I ((u0 c n S).1:Nat),h')∧St c (u0 c n S).2 h' ov∧Fr c h ov h' ov:=by
 subst hm;exact IL st hn
theorem Hs {c:SC} {S:SS} {h:H} {ov:AV} (st:St c S h ov) {n least:Nat} (hn:n≤16) (hl:least<100000):∃h',aQ AP.A 73 [.aC c.s 0,I least,I n,I 0] h=some (I ((least+(u0 c n S).1:Nat)),h')∧St c (u0 c n S).2 h' ov∧Fr c h ov h' ov:=by
 obtain⟨h',k1,k2,k3⟩:=IL st hn
 refine⟨h', ?_,k2,k3⟩
 have hb:(u0 c n S).1<65536:=by
  unfold u0;split
  · have:=wB c.text S.at_ n
    have:=QZ (show 0<2 by omega) hn
    simp at *;omega
  · simp
 have w:IntKind.wrap .i64 ((least:Int)+((u0 c n S).1:Nat))=((least+(u0 c n S).1:Nat):Int):=by
  rw[show(least:Int)+((u0 c n S).1:Nat)=((least+(u0 c n S).1:Nat):Int)by omega];exact uY (by omega)
 refine sZ (fn:=AP.f73) (e:=[(8,I ((least+(u0 c n S).1:Nat)))]) rfl rfl rfl ?_ rfl
 simp only[I]at *
 simp only[AP.f73,go_sem,k1,w]
theorem DR {c:SC} {S:SS} {h:H} {ov:AV} (st:St c S h ov) (he:S.e=0):∃h' S',aQ AP.A 73 [.aC c.s 0,I 0,I 0,I 600] h=some (I 0,h')∧St c S' h' ov∧Fr c h ov h' ov∧S'.e=700:=by
 obtain⟨h1,k1,k2,k3⟩:=wJ st 700
 obtain⟨h',l1,l2,l3⟩:=IL k2 (n:=0) (by omega)
 have hS:vw 700 S={S with e:=700}:=by rw[vw,if_pos he]
 have hle:=st.xW
 have hg:u0 c 0 (vw 700 S)=(0,vw 700 S):=by
  rw[u0,if_pos (by rw[hS];exact hle)];rfl
 rw[hg]at l1 l2
 have l1':aQ AP.A 38 [.aC c.s 0,I 0] h1=some (I 0,h'):=l1
 clear l1
 refine⟨h',_, ?_,l2,k3.trans l3,by rw[hS]⟩
 have w:IntKind.wrap .i64 (0+0)=0:=s9 (by omega) (by omega)
 refine sZ (fn:=AP.f73) (e:=[(8,I 0)]) rfl rfl rfl ?_ rfl
 simp only[I]at *
 simp only[AP.f73,go_sem,k1,l1',w]
def yi (t:ByteArray) (l:List Int):Nat→Nat→Nat→Nat→Option (Int×Nat)
 |0,_,_,_=>none
 |k+1,n,v,p=>if p+1≤8* t.size then(match wU l n ((v* 2+u2 t p 1:Nat):Int)with|some y=>some (y,p+1)|none=>yi t l k (n+1) (v* 2+u2 t p 1) (p+1))else none
theorem FW {c:SC} {S:SS} {h:H} {ov:AV} (st:St c S h ov) (l:List Int) (v n:Nat) (hs:n=16∨(n≤15∧S.e≠0)):
 ∃e',Lp AP.A [0,1,5,6] AP.f60L0 [(0,.aC c.s 0),(1,vp l),(5,I v),(6,I n)] h=some (.exit 0,e',h)∧look e' 0=.aC c.s 0:=by
 have gs:=st.gs
 refine⟨[(0,.aC c.s 0),(1,vp l),(5,I v),(6,I n),(17,.bool false)],sK ?_,rfl⟩
 rcases hs with hn|⟨hn,he⟩
 · have c1:¬(n:Int)≤15:=by omega
   simp only[I]at *
   simp only[AP.f60L0,go_sem,QL c1]
 · have c1:(n:Int)≤15:=by omega
   have c2:(S.e==0)=false:=tI he
   simp only[I]at *
   simp only[AP.f60L0,go_sem,QN c1,gs,c2]
theorem FV {c : SC} (l : List Int) (hl : l.length < 100000) : ∀ (k n v : Nat) (S : SS) (h : H) (ov : AV), n + k = 16 → 1 ≤ n → v < 2 ^ (n - 1) → St c S h ov → S.e = 0 →
 ∃ h' S', St c S' h' ov ∧ Fr c h ov h' ov ∧ match yi c.text l k n v S.at_ with
   |some (y,p)=>S'={S with at_:=p}∧∃e',Lp AP.A [0,1,5,6] AP.f60L0 [(0,.aC c.s 0),(1,vp l),(5,I v),(6,I n)] h=some (.ret,e',h')∧look e' 4=I y
   |none=>(S'.e=0∨S'.e=700)∧∃e',Lp AP.A [0,1,5,6] AP.f60L0 [(0,.aC c.s 0),(1,vp l),(5,I v),(6,I n)] h=some (.exit 0,e',h')∧look e' 0=.aC c.s 0
 | 0, n, v, S, h, ov, hk, hn, hv, st, he => by
   obtain⟨e',q1,q2⟩:=FW st l v n (.inl (by omega))
   exact⟨h,S,st,Fr.refl _ _ _,by simp only[yi];exact⟨.inl he,e',q1,q2⟩⟩
 | k + 1, n, v, S, h, ov, hk, hn, hv, st, he => by
   have gs:=st.gs
   obtain⟨h1,k1,k2,k3⟩:=ya st 1 1 rfl (by omega)
   obtain⟨x,hx⟩:∃x,x=(u0 c 1 S).1:=⟨_,rfl⟩
   obtain⟨S1,hS1⟩:∃x,x=(u0 c 1 S).2:=⟨_,rfl⟩
   rw[←hx]at k1;rw[←hS1]at k2
   have hp:2^n≤2^15:=QZ (by omega) (by omega)
   have h2:2^(n-1+1)=2^(n-1)* 2:=Nat.pow_succ 2 (n-1)
   rw[show n-1+1=n by omega]at h2
   obtain⟨P,hP⟩:∃P:Nat,P=2^(n-1):=⟨_,rfl⟩
   rw[←hP]at h2 hv
   obtain⟨Q,hQ⟩:∃Q:Nat,Q=2^n:=⟨_,rfl⟩
   rw[←hQ]at h2 hp
   simp only[Nat.reducePow]at hp
   have hx1:x<2:=by
    rw[hx];unfold u0;split
    · have:=wB c.text S.at_ 1;simpa using this
    · simp
   have hv':v* 2+x<Q:=by omega
   have w1:IntKind.wrap .i64 ((v:Int)* 2)=((v* 2:Nat):Int):=by
    rw[show(v:Int)* 2=((v* 2:Nat):Int)by omega];exact uY (by omega)
   have w2:IntKind.wrap .i64 (((v* 2:Nat):Int)+(x:Int))=((v* 2+x:Nat):Int):=by
    rw[show((v* 2:Nat):Int)+(x:Int)=((v* 2+x:Nat):Int)by omega];exact uY (by omega)
   have w3:IntKind.wrap .i64 ((n:Int)+1)=((n+1:Nat):Int):=uY (n:=n+1) (by omega)
   have c1:(n:Int)≤15:=by omega
   have fc:=Mc h1 l hl n hn (by omega) ((v* 2+x:Nat):Int) (by omega) (by omega)
   have gs1:=k2.gs
   have step:(wU l n ((v* 2+x:Nat):Int)=none∨S1.e≠0)→aK (aQ AP.A) bo AP.f60L0 (ax [(0,.aC c.s 0),(1,vp l),(5,I v),(6,I n)] [0,1,5,6]) h=some (.normal,[(0,.aC c.s 0),(1,vp l),(5,I (v* 2+x:Nat)),(6,I (n+1:Nat))],h1):=by
    intro hc
    rcases hc with hc|hc
    · rw[hc]at fc
      simp only[I]at *
      simp only[AP.f60L0,go_sem,QN c1,gs,he,k1,w1,w2,fc,w3]
    · have c2:(S1.e==0)=false:=tI hc
      cases hf:wU l n ((v* 2+x:Nat):Int)with
      | none =>
        rw[hf]at fc
        simp only[I]at *
        simp only[AP.f60L0,go_sem,QN c1,gs,he,k1,w1,w2,fc,w3]
      | some y =>
        rw[hf]at fc
        simp only[I]at *
        simp only[AP.f60L0,go_sem,QN c1,gs,he,k1,w1,w2,fc,w3,gs1,c2]
   by_cases hat:S.at_+1≤8* c.text.size
   · have eg:u0 c 1 S=(u2 c.text S.at_ 1,{S with at_:=S.at_+1}):=by rw[u0,if_pos hat]
     rw[eg]at hx hS1
     dsimp only at hx hS1
     subst hx hS1
     rw[yi,if_pos hat]
     cases hf:wU l n ((v* 2+u2 c.text S.at_ 1:Nat):Int)with
     | none =>
       obtain⟨h',S',q1,q2,q3⟩:=FV l hl k (n+1) (v* 2+u2 c.text S.at_ 1) _ h1 ov (by omega) (by omega) (by rw[Nat.add_sub_cancel,←hQ];exact hv') k2 he
       refine⟨h',S',q1,k3.trans q2, ?_⟩
       dsimp only at q3 ⊢
       have sp:=step (.inl hf)
       cases hy:yi c.text l k (n+1) (v* 2+u2 c.text S.at_ 1) (S.at_+1)with
       | none =>
         rw[hy]at q3
         obtain⟨q3,e',q4,q5⟩:=q3
         exact⟨q3,e',sL sp q4,q5⟩
       | some y =>
         rw[hy]at q3
         obtain⟨q3,e',q4,q5⟩:=q3
         exact⟨q3,e',sL sp q4,q5⟩
     | some y =>
       refine⟨h1,_,k2,k3,rfl,[(4,I y)],te ?_,rfl⟩
       rw[hf]at fc
       simp only[I]at *
       simp only[AP.f60L0,go_sem,QN c1,gs,he,k1,w1,w2,fc,w3,gs1]
   · have eg:u0 c 1 S=(0,{S with e:=700}):=by rw[u0,if_neg hat,vw,if_pos he]
     rw[eg]at hx hS1
     dsimp only at hx hS1
     subst hx hS1
     rw[yi,if_neg hat]
     have hst:n+1=16∨(n+1≤15∧(700:Int)≠0):=by omega
     obtain⟨e',q1,q2⟩:=FW k2 l (v* 2+0) (n+1) hst
     exact⟨h1,_,k2,k3,.inr rfl,e',sL (step (.inr (by simp))) q1,q2⟩
theorem CI {c:SC} {S:SS} {h:H} {ov:AV} (l:List Int) (hl:l.length<100000) (st:St c S h ov) (he:S.e=0):
 ∃ h' S' y, aQ AP.A 60 [.aC c.s 0, vp l] h = some (I y, h') ∧ St c S' h' ov ∧ Fr c h ov h' ov ∧ match yi c.text l 15 1 0 S.at_ with
   |some (z,p)=>S'={S with at_:=p}∧y=z
   |none=>S'.e=700∧y=256:=by
 obtain⟨h1,S1,q1,q2,q3⟩:=FV l hl 15 1 0 S h ov (by omega) (by omega) (by simp) st he
 cases hy:yi c.text l 15 1 0 S.at_ with
 | some yp =>
   rw[hy]at q3
   obtain⟨q3,e',q4,q5⟩:=q3
   refine⟨h1,S1,yp.1, ?_,q1,q2,q3,rfl⟩
   refine sZ (fn:=AP.f60) (e:=e') (vs:=[I yp.1]) rfl rfl rfl ?_ (by simp only[AP.f60,cm,mP,q5];rfl)
   have q6:Lp AP.A [0,1,5,6] AP.f60L0 [(0,.aC c.s 0),(1,vp l),(5,I 0),(6,I 1)] h=some (.ret,e',h1):=q4
   clear q4
   simp only[I]at *
   simp only[AP.f60,go_sem,rI,q6]
 | none =>
   rw[hy]at q3
   obtain⟨q3,e',q4,q5⟩:=q3
   obtain⟨h2,r1,r2,r3⟩:=wJ q1 700
   refine⟨h2,vw 700 S1,256, ?_,r2,q2.trans r3, ?_,rfl⟩
   · refine sZ (fn:=AP.f60) (e:=[(4,I 256)]) rfl rfl rfl ?_ rfl
     have q6:Lp AP.A [0,1,5,6] AP.f60L0 [(0,.aC c.s 0),(1,vp l),(5,I 0),(6,I 1)] h=some (.exit 0,e',h1):=q4
     clear q4
     simp only[I]at *
     simp only[AP.f60,go_sem,rI,q6,q5,r1]
   · rcases q3 with q3|q3<;>simp [vw,q3]
def lenOf (y:Nat):Option (Nat×Nat):=
 if y≤256∨285<y then none else if y=285 then some (258,0)else if y<265 then some (y-254,0)else some (3+(4+(y-257)%4)* 2^((y-257)/4-1),(y-257)/4-1)
def vu (y:Nat):Option (Nat×Nat):=
 if 30≤y then none else if y<4 then some (1+y,0)else some (1+(2+y%2)* 2^(y/2-1),y/2-1)
theorem Cj {y a b:Nat} (h:lenOf y=some (a,b)):a≤258∧b≤5∧0<a:=by
 have key:∀y<286,∀a b,lenOf y=some (a,b)→a≤258∧b≤5∧0<a:=by
  intro y hy a b h
  have:((lenOf y).map fun p=>decide (p.1≤258∧p.2≤5∧0<p.1))=(lenOf y).map fun _=>true:=by
   clear h
   revert y
   decide+kernel
  rw[h]at this
  simpa using this
 by_cases hy:y<286
 · exact key y hy a b h
 · rw[lenOf,if_pos (by omega)]at h;cases h
theorem AF {y a b:Nat} (h:vu y=some (a,b)):a≤24577∧b≤13∧0<a:=by
 have key:∀y<30,∀a b,vu y=some (a,b)→a≤24577∧b≤13∧0<a:=by
  intro y hy a b h
  have:((vu y).map fun p=>decide (p.1≤24577∧p.2≤13∧0<p.1))=(vu y).map fun _=>true:=by
   clear h
   revert y
   decide+kernel
  rw[h]at this
  simpa using this
 by_cases hy:y<30
 · exact key y hy a b h
 · rw[vu,if_pos (by omega)]at h;cases h
def CP (o:Option (Nat×Nat)):AV:=match o with
 |some p=>.bJ [I p.1,I p.2,I 0]
 |none=>.bJ [I 0,I 0,I 600]
theorem G4 (h:H) (y:Nat) (hy:y<1000000):aQ AP.A 74 [I y] h=some (CP (lenOf y),h):=by
 have d1:decide ((y:Int)≤256)=decide (y≤256):=by by_cases q:y≤256<;>simp [q]<;>omega
 have w1:IntKind.wrap .i64 ((y:Int)-256)=(y:Int)-256:=s9 (by omega) (by omega)
 have w2:IntKind.wrap .i64 ((y:Int)-256-1)=(y:Int)-257:=by rw[show(y:Int)-256-1=(y:Int)-257 by omega];exact s9 (by omega) (by omega)
 by_cases c1:y≤256
 · rw[lenOf,if_pos (.inl c1)]
   refine tC (fn:=AP.f74) (h2:=h.dG) (e:=[(2,I 0),(3,I 0),(4,I 600)]) rfl rfl rfl ?_ rfl rfl
   have c1':(y:Int)≤256:=by omega
   simp only[I]at *
   simp only[AP.f74,go_sem,w1,w2,QN c1']
 have c1':¬(y:Int)≤256:=by omega
 by_cases c2:285<y
 · rw[lenOf,if_pos (.inr c2)]
   refine tC (fn:=AP.f74) (h2:=h.dG) (e:=[(2,I 0),(3,I 0),(4,I 600)]) rfl rfl rfl ?_ rfl rfl
   have c2':(285:Int)<y:=by omega
   simp only[I]at *
   simp only[AP.f74,go_sem,w1,w2,QL c1',QN c2']
 have c2':¬(285:Int)<y:=by omega
 rw[lenOf,if_neg (by omega)]
 by_cases c3:y=285
 · rw[if_pos c3]
   refine tC (fn:=AP.f74) (h2:=h.dG) (e:=[(2,I 258),(3,I 0),(4,I 0)]) rfl rfl rfl ?_ rfl rfl
   have c3':((y:Int)==285)=true:=tJ (by omega)
   simp only[I]at *
   simp only[AP.f74,go_sem,w1,w2,QL c1',QL c2',c3']
 rw[if_neg c3]
 have c3':((y:Int)==285)=false:=tI (by omega)
 by_cases c4:y<265
 · rw[if_pos c4]
   refine tC (fn:=AP.f74) (h2:=h.dG) (e:=[(2,I (y-254:Nat)),(3,I 0),(4,I 0)]) rfl rfl rfl ?_ rfl rfl
   have c4':(y:Int)-257<8:=by omega
   have w3:IntKind.wrap .i64 (3+((y:Int)-257))=((y-254:Nat):Int):=by rw[show 3+((y:Int)-257)=((y-254:Nat):Int)by omega];exact uY (by omega)
   simp only[I]at *
   simp only[AP.f74,go_sem,w1,w2,QL c1',QL c2',c3',QN c4',w3]
 rw[if_neg c4]
 have c4':¬(y:Int)-257<8:=by omega
 obtain⟨k,hk⟩:∃k:Nat,(y:Int)-257=k:=QP (by omega)
 have hk':y-257=k:=by omega
 rw[hk]at w2 c4'
 rw[hk']
 have q1:bh .quo (.int .i64 (k:Int)) (.int .i64 4)=some (.int .i64 ((k/4:Nat):Int)):=by
  rw[rq _ _ _ (by omega),show(4:Int)=((4:Nat):Int)from rfl,yj,uY (by omega)]
 have q2:bh .rem (.int .i64 (k:Int)) (.int .i64 4)=some (.int .i64 ((k%4:Nat):Int)):=by
  rw[ru _ _ _ (by omega),show(4:Int)=((4:Nat):Int)from rfl,CK]
 have w3:IntKind.wrap .i64 (((k/4:Nat):Int)-1)=((k/4-1:Nat):Int):=by rw[show((k/4:Nat):Int)-1=((k/4-1:Nat):Int)by omega];exact uY (by omega)
 have w4:IntKind.wrap .i64 (4+((k%4:Nat):Int))=((4+k%4:Nat):Int):=by rw[show 4+((k%4:Nat):Int)=((4+k%4:Nat):Int)by omega];exact uY (by omega)
 have hp:2^(k/4-1)≤2^5:=QZ (by omega) (by omega)
 have hm:(4+k%4)* 2^(k/4-1)≤7* 2^5:=Nat.mul_le_mul (by omega) hp
 have q3:oN .shl .i64 ((4+k%4:Nat):Int) ((k/4-1:Nat):Int)=some (.int .i64 (((4+k%4)* 2^(k/4-1):Nat):Int)):=Ay (by omega) (by omega)
 generalize (4+k%4)* 2^(k/4-1)=P at *
 have w5:IntKind.wrap .i64 (3+(P:Int))=((3+P:Nat):Int):=by rw[show 3+(P:Int)=((3+P:Nat):Int)by omega];exact uY (by omega)
 refine tC (fn:=AP.f74) (h2:=h.dG) (e:=[(2,I (3+P:Nat)),(3,I (k/4-1:Nat)),(4,I 0)]) rfl rfl rfl ?_ rfl rfl
 simp only[I]at *
 simp only[AP.f74,go_sem,w1,w2,QL c1',QL c2',c3',QL c4',q1,q2,w3,w4,q3,w5]
theorem E0 (h:H) (y:Nat) (hy:y<1000000):aQ AP.A 75 [I y] h=some (CP (vu y),h):=by
 have c0:¬(y:Int)<0:=by omega
 by_cases c1:30≤y
 · rw[vu,if_pos c1]
   refine tC (fn:=AP.f75) (h2:=h.dG) (e:=[(2,I 0),(3,I 0),(4,I 600)]) rfl rfl rfl ?_ rfl rfl
   have c1':(30:Int)≤y:=by omega
   simp only[I]at *
   simp only[AP.f75,go_sem,QL c0,QN c1']
 have c1':¬(30:Int)≤y:=by omega
 rw[vu,if_neg c1]
 by_cases c2:y<4
 · rw[if_pos c2]
   refine tC (fn:=AP.f75) (h2:=h.dG) (e:=[(2,I (1+y:Nat)),(3,I 0),(4,I 0)]) rfl rfl rfl ?_ rfl rfl
   have c2':(y:Int)<4:=by omega
   have w3:IntKind.wrap .i64 (1+(y:Int))=((1+y:Nat):Int):=by rw[show 1+(y:Int)=((1+y:Nat):Int)by omega];exact uY (by omega)
   simp only[I]at *
   simp only[AP.f75,go_sem,QL c0,QL c1',QN c2',w3]
 rw[if_neg c2]
 have c2':¬(y:Int)<4:=by omega
 have q1:bh .quo (.int .i64 (y:Int)) (.int .i64 2)=some (.int .i64 ((y/2:Nat):Int)):=by
  rw[rq _ _ _ (by omega),show(2:Int)=((2:Nat):Int)from rfl,yj,uY (by omega)]
 have q2:bh .rem (.int .i64 (y:Int)) (.int .i64 2)=some (.int .i64 ((y%2:Nat):Int)):=by
  rw[ru _ _ _ (by omega),show(2:Int)=((2:Nat):Int)from rfl,CK]
 have w3:IntKind.wrap .i64 (((y/2:Nat):Int)-1)=((y/2-1:Nat):Int):=by rw[show((y/2:Nat):Int)-1=((y/2-1:Nat):Int)by omega];exact uY (by omega)
 have w4:IntKind.wrap .i64 (2+((y%2:Nat):Int))=((2+y%2:Nat):Int):=by rw[show 2+((y%2:Nat):Int)=((2+y%2:Nat):Int)by omega];exact uY (by omega)
 have hp:2^(y/2-1)≤2^13:=QZ (by omega) (by omega)
 have hm:(2+y%2)* 2^(y/2-1)≤3* 2^13:=Nat.mul_le_mul (by omega) hp
 have q3:oN .shl .i64 ((2+y%2:Nat):Int) ((y/2-1:Nat):Int)=some (.int .i64 (((2+y%2)* 2^(y/2-1):Nat):Int)):=Ay (by omega) (by omega)
 generalize (2+y%2)* 2^(y/2-1)=P at *
 have w5:IntKind.wrap .i64 (1+(P:Int))=((1+P:Nat):Int):=by rw[show 1+(P:Int)=((1+P:Nat):Int)by omega];exact uY (by omega)
 refine tC (fn:=AP.f75) (h2:=h.dG) (e:=[(2,I (1+P:Nat)),(3,I (y/2-1:Nat)),(4,I 0)]) rfl rfl rfl ?_ rfl rfl
 simp only[I]at *
 simp only[AP.f75,go_sem,QL c0,QL c1',QL c2',q1,q2,w3,w4,q3,w5]
abbrev Rs:=Except Int (Nat×List Nat)
def Fin (r:Rs) (S:SS):Prop:=match r with
 | .ok q=>S=⟨q.1,q.2,0⟩
 | .error k=>S.e=k∧k≠0
theorem Es {c:SC} {S:SS} (b:Nat) (he:S.e=0) (hm:¬c.most≤S.out.length):Cx c b S=⟨S.at_,S.out++[b],0⟩:=by
 simp only[Cx,if_neg hm,he,if_true]
theorem AW {c:SC} {S:SS} (b:Nat) (he:S.e=0) (hm:c.most≤S.out.length):(Cx c b S).e=701:=by
 simp [Cx,hm,vw,he]
def xU (t:ByteArray) (most:Int):Nat→Nat→List Nat→Rs
 |0,p,out=>.ok (p,out)
 |n+1,p,out=>if p+8≤8* t.size then(if most≤out.length then .error 701 else xU t most n (p+8) (out++[u2 t p 8]))else .error 700
theorem xH {c:SC} {S:SS} {h:H} {ov:AV} (st:St c S h ov) (n:Nat) (hs:n=0∨S.e≠0):
 ∃e',Lp AP.A [0,2] AP.f39L0 [(0,.aC c.s 0),(2,I n)] h=some (.exit 0,e',h):=by
 have gs:=st.gs
 refine⟨[(0,.aC c.s 0),(2,I n),(26,.bool false)],sK ?_⟩
 by_cases hn:n=0
 · have c1:¬(0:Int)<n:=by omega
   simp only[I]at *
   simp only[AP.f39L0,go_sem,QL c1]
 · have c1:(0:Int)<n:=by omega
   have c2:(S.e==0)=false:=tI (by omega)
   simp only[I]at *
   simp only[AP.f39L0,go_sem,QN c1,gs,c2]
theorem CG {c : SC} : ∀ (n : Nat) (S : SS) (h : H) (ov : AV), St c S h ov → S.e = 0 → n ≤ 65535 →
 ∃e' h' ov' S',Lp AP.A [0,2] AP.f39L0 [(0,.aC c.s 0),(2,I n)] h=some (.exit 0,e',h')∧St c S' h' ov'∧Fr c h ov h' ov'∧Fin (xU c.text c.most n S.at_ S.out) S'
 | 0, S, h, ov, st, he, hn => by
   obtain⟨e',q⟩:=xH st 0 (.inl rfl)
   exact⟨e',h,ov,S,q,st,Fr.refl _ _ _,by simp only[xU,Fin];cases S;simp_all⟩
 | n + 1, S, h, ov, st, he, hn => by
   have gs:=st.gs
   obtain⟨h1,k1,k2,k3⟩:=ya st 8 8 rfl (by omega)
   have gs1:=k2.gs
   have c1:(0:Int)<((n+1:Nat):Int):=by omega
   have w1:IntKind.wrap .i64 (((n+1:Nat):Int)-1)=(n:Int):=by rw[show((n+1:Nat):Int)-1=(n:Int)by omega];exact uY (by omega)
   by_cases hp:S.at_+8≤8* c.text.size
   · have eg:u0 c 8 S=(u2 c.text S.at_ 8,{S with at_:=S.at_+8}):=by rw[u0,if_pos hp]
     rw[eg]at k1 k2 gs1
     dsimp only at k1 k2 gs1
     obtain⟨h2,ov2,p1,p2,p3⟩:=Jj k2 (b:=u2 c.text S.at_ 8)
     have hb:=wB c.text S.at_ 8
     have w2:IntKind.wrap .u8 ((u2 c.text S.at_ 8:Nat):Int)=((u2 c.text S.at_ 8:Nat):Int):=wrap_u8 (by simpa using hb)
     have step:aK (aQ AP.A) bo AP.f39L0 (ax [(0,.aC c.s 0),(2,I (n+1:Nat))] [0,2]) h=some (.normal,[(0,.aC c.s 0),(2,I n)],h2):=by
      simp only[I]at *
      simp only[AP.f39L0,go_sem,QN c1,gs,he,k1,gs1,w2,p1,w1]
     rw[xU,if_pos hp]
     by_cases hm:c.most≤S.out.length
     · rw[if_pos hm]
       have hl:=AW (c:=c) (S:={S with at_:=S.at_+8}) (u2 c.text S.at_ 8) he hm
       obtain⟨e',q⟩:=xH p2 n (.inr (by rw[hl];decide))
       exact⟨e',h2,ov2,_,sL step q,p2,k3.trans p3,hl,by decide⟩
     · rw[if_neg hm]
       rw[Es (S:={S with at_:=S.at_+8}) _ he hm]at p2
       obtain⟨e',h',ov',S',q1,q2,q3,q4⟩:=CG n _ h2 ov2 p2 rfl (by omega)
       exact⟨e',h',ov',S',sL step q1,q2,(k3.trans p3).trans q3,q4⟩
   · have eg:u0 c 8 S=(0,{S with e:=700}):=by rw[u0,if_neg hp,vw,if_pos he]
     rw[eg]at k1 k2 gs1
     dsimp only at k1 k2 gs1
     have step:aK (aQ AP.A) bo AP.f39L0 (ax [(0,.aC c.s 0),(2,I (n+1:Nat))] [0,2]) h=some (.normal,[(0,.aC c.s 0),(2,I n)],h1):=by
      simp only[I]at *
      simp only[AP.f39L0,go_sem,QN c1,gs,he,k1,gs1,w1]
     rw[xU,if_neg hp]
     obtain⟨e',q⟩:=xH k2 n (.inr (by simp))
     exact⟨e',h1,ov,_,sL step q,k2,k3,rfl,by decide⟩
def BF (t:ByteArray) (most:Int) (p0:Nat) (out:List Nat):Rs:=
 let p:=(p0+7)/8* 8
 if p+32≤8* t.size then(if u2 t p 16+u2 t (p+16) 16=65535 then xU t most (u2 t p 16) (p+32) out else .error 700)else .error 700
theorem JK {n:Nat} (hn:n<65536):bits .xor .i64 (n:Int) 65535=((65535-n:Nat):Int):=by
 have h1:n<2^16:=by simpa using hn
 show IntKind.wrap .i64 (((BitVec.ofInt 64 (n:Int)^^^BitVec.ofInt 64 ((65535:Nat):Int)).toNat:Nat):Int)=_
 rw[BitVec.toNat_xor,xz 64 n (by omega),xz 64 65535 (by omega)]
 have h2:n^^^65535=65535-n:=by
  have:65535-n=2^16-(n+1):=by omega
  rw[this]
  apply Nat.eq_of_testBit_eq
  intro i
  rw[Nat.testBit_two_pow_sub_succ h1,Nat.testBit_xor,show 65535=2^16-1 from rfl,Nat.testBit_two_pow_sub_one]
  by_cases hi:i<16
  · simp [hi]
  · have:n.testBit i=false:=Nat.testBit_lt_two_pow (Nat.lt_of_lt_of_le h1 (QZ (by omega) (by omega)))
    simp [hi,this]
 rw[h2];exact uY (by omega)
theorem St.align {c:SC} {S:SS} {h:H} {ov:AV} (st:St c S h ov):∃h',aQ AP.A 16 [.aC c.r 0] h=some (I 0,h')∧St c {S with at_:=(S.at_+7)/8* 8} h' ov∧Fr c h ov h' ov:=by
 have hle:=st.xW
 have:=st.Np (p:=(S.at_+7)/8* 8) (by omega)
 exact⟨_,JR h c.r c.text S.at_ st.gr st.fr st.sz st.xW,this.1,this.2⟩
theorem JB {c : SC} {S : SS} {h : H} {ov : AV} (st : St c S h ov) (he : S.e = 0) :
 ∃h' ov' S',aQ AP.A 39 [.aC c.s 0] h=some (.bJ [],h')∧St c S' h' ov'∧Fr c h ov h' ov'∧Fin (BF c.text c.most S.at_ S.out) S':=by
 have gs:=st.gs
 obtain⟨h1,a1,a2,a3⟩:=st.align
 obtain⟨p,hp⟩:∃p,p=(S.at_+7)/8* 8:=⟨_,rfl⟩
 rw[←hp]at a2
 have hS:BF c.text c.most S.at_ S.out=if p+32≤8* c.text.size then(if u2 c.text p 16+u2 c.text (p+16) 16=65535 then xU c.text c.most (u2 c.text p 16) (p+32) S.out else .error 700)else .error 700:=by
  rw[hp];rfl
 rw[hS];clear hS
 obtain⟨h2,b1,b2,b3⟩:=ya a2 16 16 rfl (by omega)
 obtain⟨h3,d1,d2,d3⟩:=ya b2 16 16 rfl (by omega)
 obtain⟨n,hn⟩:∃n,n=(u0 c 16 {S with at_:=p}).1:=⟨_,rfl⟩
 obtain⟨S2,hS2⟩:∃n,n=(u0 c 16 {S with at_:=p}).2:=⟨_,rfl⟩
 obtain⟨m,hm⟩:∃n,n=(u0 c 16 S2).1:=⟨_,rfl⟩
 obtain⟨S3,hS3⟩:∃n,n=(u0 c 16 S2).2:=⟨_,rfl⟩
 rw[←hn]at b1;rw[←hS2]at b2 d1 d2;rw[←hm]at d1;rw[←hS3]at d2
 have hn16:n<65536:=by
  rw[hn];unfold u0;split
  · simpa using wB c.text p 16
  · simp
 have x1:=JK hn16
 by_cases hx:m=65535-n
 · have c1:((m:Int) !=((65535-n:Nat):Int))=false:=tK (by omega)
   have fin:∀e' h',Lp AP.A [0,2] AP.f39L0 [(0,.aC c.s 0),(2,I n)] h3=some (.exit 0,e',h')→aQ AP.A 39 [.aC c.s 0] h=some (.bJ [],h'):=by
    intro e' h' q
    refine vM (fn:=AP.f39) (e:=[]) rfl rfl rfl ?_ rfl
    simp only[I]at *
    simp only[AP.f39,go_sem,rI,gs,a1,b1,d1,x1,c1,q]
   by_cases h32:p+32≤8* c.text.size
   · have e2:u0 c 16 {S with at_:=p}=(u2 c.text p 16,{S with at_:=p+16}):=by rw[u0,if_pos (by show p+16≤_;omega)]
     rw[e2]at hn hS2;dsimp only at hn hS2;subst hS2
     have e3:u0 c 16 {S with at_:=p+16}=(u2 c.text (p+16) 16,{S with at_:=p+16+16}):=by rw[u0,if_pos (by show p+16+16≤_;omega)]
     rw[e3]at hm hS3;dsimp only at hm hS3;subst hS3
     rw[if_pos h32,←hn,←hm,if_pos (by omega)]
     obtain⟨e',h',ov',S',q1,q2,q3,q4⟩:=CG n _ h3 ov d2 he (by omega)
     exact⟨h',ov',S',fin e' h' q1,q2,((a3.trans b3).trans d3).trans q3,q4⟩
   · rw [if_neg h32]
     have he3:S3.e=700:=by
      rw[hS3,hS2]
      unfold u0
      by_cases q1:p+16≤8* c.text.size
      · simp only[if_pos q1]
        rw[if_neg (by omega)];simp [vw,he]
      · simp only[if_neg q1,vw,he,if_true]
        split<;>simp
     obtain⟨e',q⟩:=xH d2 n (.inr (by rw[he3];decide))
     exact⟨h3,ov,S3,fin e' h3 q,d2,(a3.trans b3).trans d3,he3,by decide⟩
 · have c1:((m:Int) !=((65535-n:Nat):Int))=true:=tL (by omega)
   obtain⟨h4,f1,f2,f3⟩:=wJ d2 700
   have he4:(vw 700 S3).e=700:=by
    have:S3.e=0∨S3.e=700:=by
     rw[hS3,hS2]
     unfold u0
     by_cases q1:p+16≤8* c.text.size
     · simp only[if_pos q1]
       split<;>simp [vw,he]
     · simp only[if_neg q1,vw,he,if_true]
       split<;>simp
    rcases this with q|q<;>simp [vw,q]
   obtain⟨e',q⟩:=xH f2 n (.inr (by rw[he4];decide))
   refine⟨h4,ov,vw 700 S3, ?_,f2,((a3.trans b3).trans d3).trans f3, ?_⟩
   · refine vM (fn:=AP.f39) (e:=[]) rfl rfl rfl ?_ rfl
     simp only[I]at *
     simp only[AP.f39,go_sem,rI,gs,a1,b1,d1,x1,c1,f1,q]
   · by_cases h32:p+32≤8* c.text.size
     · have e2:u0 c 16 {S with at_:=p}=(u2 c.text p 16,{S with at_:=p+16}):=by rw[u0,if_pos (by show p+16≤_;omega)]
       rw[e2]at hn hS2;dsimp only at hn hS2;subst hS2
       have e3:u0 c 16 {S with at_:=p+16}=(u2 c.text (p+16) 16,{S with at_:=p+16+16}):=by rw[u0,if_pos (by show p+16+16≤_;omega)]
       rw[e3]at hm hS3;dsimp only at hm hS3
       rw[if_pos h32,←hn,←hm,if_neg (by omega)]
       exact⟨he4,by decide⟩
     · rw[if_neg h32];exact⟨he4,by decide⟩
def Bc (most:Int) (d:Nat):Nat→List Nat→Except Int (List Nat)
 |0,out=>.ok out
 |n+1,out=>if most≤out.length then .error 701 else Bc most d n (out++[out.getD (out.length-d) 0])
def JL (l:List Nat):Prop:=∀b∈l,b<256
theorem xY {c:SC} {S:SS} {h:H} {ov:AV} (st:St c S h ov) (n d:Nat) (hs:n=0∨S.e≠0):
 ∃e',Lp AP.A [0,6,8] AP.f61L0 [(0,.aC c.s 0),(6,I n),(8,I d)] h=some (.exit 0,e',h):=by
 have gs:=st.gs
 refine⟨[(0,.aC c.s 0),(6,I n),(8,I d),(53,.bool false)],sK ?_⟩
 by_cases hn:n=0
 · have c1:¬(0:Int)<n:=by omega
   simp only[I]at *
   simp only[AP.f61L0,go_sem,QL c1]
 · have c1:(0:Int)<n:=by omega
   have c2:(S.e==0)=false:=tI (by omega)
   simp only[I]at *
   simp only[AP.f61L0,go_sem,QN c1,gs,c2]
theorem mX.elem {h:H} {v:AV} {cs:List AV} (o:mX h v cs) {i:Nat} {x:AV} (hx:cs[i]?=some x):∃id,v=.aD id 0 cs.length 1∧fC 1 v (I i)=some (.aC id i)∧h.get id=some cs:=by
 have hi:i<cs.length:=(uo.1 hx).1
 rcases o with ⟨rfl,rfl⟩|⟨id,rfl,h1,_⟩
 · simp at hi
 · exact⟨id,rfl,by simp [fC,jW hi],h1⟩
theorem JW {l:List Nat} {i:Nat} (h:i<l.length):(xK l)[i]?=some (.int .u8 (l.getD i 0:Nat)):=by
 simp [xK,uH,h,List.getD]
theorem Da {c:SC} (d:Nat) (hd:0<d):∀(n:Nat) (S:SS) (h:H) (ov:AV),St c S h ov→S.e=0→d≤S.out.length→n≤65535→
 ∃ e' h' ov' S', Lp AP.A [0, 6, 8] AP.f61L0 [(0, .aC c.s 0), (6, I n), (8, I d)] h = some (.exit 0, e', h') ∧ St c S' h' ov' ∧ Fr c h ov h' ov' ∧ match Bc c.most d n S.out with
   | .ok o=>S'={S with out:=o}
   | .error k=>S'.e=k∧k≠0
 | 0, S, h, ov, st, he, hl, hn => by
   obtain⟨e',q⟩:=xY st 0 d (.inl rfl)
   exact⟨e',h,ov,S,q,st,Fr.refl _ _ _,by simp only[Bc]⟩
 | n + 1, S, h, ov, st, he, hl, hn => by
   have gs:=st.gs
   have hol:=st.ol
   have hml:=st.ml
   have ln:=st.own.len
   rw[yq]at ln
   have c1:(0:Int)<((n+1:Nat):Int):=by omega
   have w1:IntKind.wrap .i64 (((n+1:Nat):Int)-1)=(n:Int):=by rw[show((n+1:Nat):Int)-1=(n:Int)by omega];exact uY (by omega)
   have w2:IntKind.wrap .i64 ((S.out.length:Int)-d)=((S.out.length-d:Nat):Int):=by rw[show(S.out.length:Int)-d=((S.out.length-d:Nat):Int)by omega];exact uY (by omega)
   have hb:=JW (l:=S.out) (i:=S.out.length-d) (by omega)
   obtain⟨id,i1,i2,i3⟩:=st.own.elem hb
   obtain⟨h2,ov2,p1,p2,p3⟩:=Jj st (b:=S.out.getD (S.out.length-d) 0)
   have step:aK (aQ AP.A) bo AP.f61L0 (ax [(0,.aC c.s 0),(6,I (n+1:Nat)),(8,I d)] [0,6,8]) h=some (.normal,[(0,.aC c.s 0),(6,I n),(8,I d)],h2):=by
    clear i1
    simp only[I]at *
    simp only[AP.f61L0,go_sem,QN c1,gs,he,ln,w2,i2,i3,hb,p1,w1]
   rw[Bc]
   by_cases hm:c.most≤S.out.length
   · rw[if_pos hm]
     have hl:=AW (c:=c) (S:=S) (S.out.getD (S.out.length-d) 0) he hm
     obtain⟨e',q⟩:=xY p2 n d (.inr (by rw[hl];decide))
     exact⟨e',h2,ov2,_,sL step q,p2,p3,hl,by decide⟩
   · rw[if_neg hm]
     rw[Es _ he hm]at p2
     obtain⟨e',h',ov',S',q1,q2,q3,q4⟩:=Da d hd n _ h2 ov2 p2 rfl (by simp;omega) (by omega)
     refine⟨e',h',ov',S',sL step q1,q2,p3.trans q3, ?_⟩
     dsimp only at q4 ⊢
     rw[he]
     exact q4
def Bb (t : ByteArray) (most : Int) (dl : List Int) (y : Nat) (p : Nat) (out : List Nat) : Rs :=
 match lenOf y with
 |none=>.error 700
 | some (least, extra) =>
   if p+extra≤8* t.size then
    match yi t dl 15 1 0 (p+extra)with
    |none=>.error 700
    | some (z, p2) => match vu z.toNat with
      |none=>.error 700
      | some (ld, xd) =>
        if p2+xd≤8* t.size∧ld+u2 t p2 xd≤out.length then
         (match Bc most (ld+u2 t p2 xd) (least+u2 t p extra) out with
         | .ok o=>.ok (p2+xd,o)
         | .error k=>.error k)
        else .error 700
   else .error 700
theorem JE {l:List Int} {n:Nat} {y:Int} (h:y∈syms l n):0≤y∧y<l.length:=by
 unfold syms at h
 split at h
 · cases h
 · rw[List.mem_filterMap]at h
   obtain⟨q,hq,h⟩:=h
   split at h
   · obtain rfl:=ue h
     have:=List.mem_zipIdx hq
     omega
   · cases h
theorem IG {l:List Int} {n:Nat} {v y:Int} (h:wU l n v=some y):0≤y∧y<l.length:=by
 unfold wU at h
 split at h
 · exact JE (uC h)
 · cases h
theorem xP {t : ByteArray} {l : List Int} : ∀ {k n v p : Nat} {y : Int} {p2 : Nat}, yi t l k n v p = some (y, p2) → 0 ≤ y ∧ y < l.length ∧ p < p2 ∧ p2 ≤ 8 * t.size
 |0,_,_,_,_,_,h=>by cases h
 | k + 1, n, v, p, y, p2, h => by
   rw[yi]at h
   split at h
   · split at h
     · rename_i hf
       obtain⟨rfl,rfl⟩:=uh (ue h)
       have:=IG hf
       omega
     · have:=xP h
       omega
   · cases h
theorem Ix {c : SC} {S : SS} {h : H} {ov : AV} (dl : List Int) (hdl : dl.length < 100000) (st : St c S h ov) (he : S.e = 0) (y : Nat) (hy : y < 100000) :
 ∃h' ov' S',aQ AP.A 61 [.aC c.s 0,I y,vp dl] h=some (.bJ [],h')∧St c S' h' ov'∧Fr c h ov h' ov'∧Fin (Bb c.text c.most dl y S.at_ S.out) S':=by
 have lo:=G4 h y (by omega)
 unfold Bb
 cases hlo:lenOf y with
 | none =>
   rw[hlo]at lo
   obtain⟨h1,S1,k1,k2,k3,k4⟩:=DR st he
   have gs1:=k2.gs
   have c1:(S1.e !=0)=true:=tL (by omega)
   refine⟨h1,ov,S1, ?_,k2,k3,k4,by decide⟩
   refine sZ (fn:=AP.f61) (e:=[(0,.aC c.s 0),(2,vp dl),(6,I 0),(20,.bool true)]) (vs:=[]) rfl rfl rfl ?_ rfl
   simp only[I,CP]at *
   simp only[AP.f61,go_sem,lo,k1,gs1,c1]
 | some le =>
   obtain⟨least,extra⟩:=le
   rw[hlo]at lo
   obtain⟨b1,b2,b3⟩:=Cj hlo
   obtain⟨h1,k1,k2,k3⟩:=Hs st (n:=extra) (least:=least) (by omega) (by omega)
   dsimp only
   by_cases hp:S.at_+extra≤8* c.text.size
   · have eg : u0 c extra S = (u2 c.text S.at_ extra, { S with at_ := S.at_ + extra }) := by rw [u0, if_pos hp]
     rw[eg]at k1 k2
     dsimp only at k1 k2
     rw[if_pos hp]
     have gs1:=k2.gs
     have hve:=wB c.text S.at_ extra
     have hve2:2^extra≤2^5:=QZ (by omega) b2
     obtain⟨h2,S2,z,s1,s2,s3,s4⟩:=CI dl hdl k2 he
     have gs2:=s2.gs
     have c1:(S.e !=0)=false:=tK he
     dsimp only at s4 gs1
     cases hz:yi c.text dl 15 1 0 (S.at_+extra)with
     | none =>
       rw[hz]at s4
       obtain⟨s4,s5⟩:=s4
       have c2:(S2.e !=0)=true:=tL (by omega)
       refine⟨h2,ov,S2, ?_,s2,k3.trans s3,s4,by decide⟩
       refine sZ (fn:=AP.f61) (e:=[(0,.aC c.s 0),(6,I (least+u2 c.text S.at_ extra:Nat)),(7,I z),(28,.bool true)]) (vs:=[]) rfl rfl rfl ?_ rfl
       simp only[I,CP]at *
       simp only[AP.f61,go_sem,lo,k1,gs1,c1,s1,gs2,c2]
     | some zp =>
       obtain⟨z2,p2⟩:=zp
       rw[hz]at s4
       obtain⟨s4,s5⟩:=s4
       subst s5 s4
       have zb:=xP hz
       obtain⟨zn,hzn⟩:∃n:Nat,z=n:=QP zb.1
       subst hzn
       have dob:=E0 h2 zn (by omega)
       have c2:(S.e !=0)=false:=tK he
       dsimp only at gs2 ⊢
       rw[Int.toNat_natCast]
       cases hdo:vu zn with
       | none =>
         rw[hdo]at dob
         obtain⟨h3,S3,v1,v2,v3,v4⟩:=DR s2 he
         have gs3:=v2.gs
         have ln:=v2.own.len
         rw[yq]at ln
         have hn0:¬((S3.out.length:Int)<0):=by omega
         obtain⟨e',q⟩:=xY v2 (least+u2 c.text S.at_ extra) 0 (.inr (by rw[v4];decide))
         refine⟨h3,ov,S3, ?_,v2,(k3.trans s3).trans v3,v4,by decide⟩
         refine vM (fn:=AP.f61) (e:=[]) (vs:=[]) rfl rfl rfl ?_ rfl
         have q':Lp AP.A [0,6,8] AP.f61L0 [(0,.aC c.s 0),(6,I (least+u2 c.text S.at_ extra:Nat)),(8,I 0)] h3=some (.exit 0,e',h3):=q
         clear q
         simp only[I,CP]at *
         simp only[AP.f61,go_sem,rI,lo,k1,gs1,c1,s1,gs2,c2,dob,v1,gs3,ln,QL hn0,q']
       | some lx =>
         obtain⟨ld,xd⟩:=lx
         rw[hdo]at dob
         obtain⟨d1,d2,d3⟩:=AF hdo
         obtain⟨h3,v1,v2,v3⟩:=Hs s2 (n:=xd) (least:=ld) (by omega) (by omega)
         obtain⟨x,hx⟩:∃x,x=(u0 c xd {S with at_:=p2}).1:=⟨_,rfl⟩
         obtain⟨S3,hS3⟩:∃x,x=(u0 c xd {S with at_:=p2}).2:=⟨_,rfl⟩
         rw[←hx]at v1;rw[←hS3]at v2
         have ho3:S3.out=S.out:=by rw[hS3];unfold u0;split<;>simp [vw];split<;>rfl
         have gs3:=v2.gs
         have ln:=v2.own.len
         rw[yq]at ln
         dsimp only
         by_cases hbk:S3.out.length<ld+x
         · have hbk':(S3.out.length:Int)<((ld+x:Nat):Int):=by omega
           obtain⟨h4,f1,f2,f3⟩:=wJ v2 700
           have he4:(vw 700 S3).e=700:=by
            have:S3.e=0∨S3.e=700:=by
             rw[hS3];unfold u0;split
             · exact .inl he
             · right;simp [vw,he]
            rcases this with q|q<;>simp [vw,q]
           have hneg:¬(p2+xd≤8* c.text.size∧ld+u2 c.text p2 xd≤S.out.length):=by
            intro ⟨q1,q2⟩
            have:u0 c xd {S with at_:=p2}=(u2 c.text p2 xd,{S with at_:=p2+xd}):=by rw[u0,if_pos q1]
            rw[this]at hx;dsimp only at hx;rw[ho3]at hbk;omega
           rw[if_neg hneg]
           obtain⟨e',q⟩:=xY f2 (least+u2 c.text S.at_ extra) (ld+x) (.inr (by rw[he4];decide))
           refine⟨h4,ov,vw 700 S3, ?_,f2,((k3.trans s3).trans v3).trans f3,he4,by decide⟩
           refine vM (fn:=AP.f61) (e:=[]) (vs:=[]) rfl rfl rfl ?_ rfl
           simp only[I,CP]at *
           simp only[AP.f61,go_sem,rI,lo,k1,gs1,c1,s1,gs2,c2,dob,v1,gs3,ln,QN hbk',f1,q]
         · have hbk':¬(S3.out.length:Int)<((ld+x:Nat):Int):=by omega
           have fin:∀e' h',Lp AP.A [0,6,8] AP.f61L0 [(0,.aC c.s 0),(6,I (least+u2 c.text S.at_ extra:Nat)),(8,I (ld+x:Nat))] h3=some (.exit 0,e',h')→aQ AP.A 61 [.aC c.s 0,I y,vp dl] h=some (.bJ [],h'):=by
            intro e' h' q
            refine vM (fn:=AP.f61) (e:=[]) (vs:=[]) rfl rfl rfl ?_ rfl
            simp only[I,CP]at *
            simp only[AP.f61,go_sem,rI,lo,k1,gs1,c1,s1,gs2,c2,dob,v1,gs3,ln,QL hbk',q]
           by_cases hp2:p2+xd≤8* c.text.size
           · have:u0 c xd {S with at_:=p2}=(u2 c.text p2 xd,{S with at_:=p2+xd}):=by rw[u0,if_pos hp2]
             rw[this]at hx hS3;dsimp only at hx hS3
             subst hx hS3
             dsimp only at hbk
             rw[if_pos ⟨hp2,by omega⟩]
             obtain⟨e',h',ov',S',q1,q2,q3,q4⟩:=Da (c:=c) (ld+u2 c.text p2 xd) (by omega) (least+u2 c.text S.at_ extra) _ h3 ov v2 he (by dsimp only;omega) (by omega)
             refine⟨h',ov',S',fin e' h' q1,q2,((k3.trans s3).trans v3).trans q3, ?_⟩
             dsimp only at q4
             cases hcl:Bc c.most (ld+u2 c.text p2 xd) (least+u2 c.text S.at_ extra) S.out with
             |ok o=>rw[hcl]at q4;rw[he]at q4;exact q4
             |error k=>rw[hcl]at q4;exact q4
           · rw[if_neg (fun q=>hp2 q.1)]
             have he3:S3.e=700:=by
              rw[hS3,u0,if_neg hp2];simp [vw,he]
             obtain⟨e',q⟩:=xY v2 (least+u2 c.text S.at_ extra) (ld+x) (.inr (by rw[he3];decide))
             exact⟨h3,ov,S3,fin e' h3 q,v2,(k3.trans s3).trans v3,he3,by decide⟩
   · have eg:u0 c extra S=(0,{S with e:=700}):=by rw[u0,if_neg hp,vw,if_pos he]
     rw[eg]at k1 k2
     dsimp only at k1 k2
     rw[if_neg hp]
     have gs1:=k2.gs
     refine⟨h1,ov,_, ?_,k2,k3,rfl,by decide⟩
     refine sZ (fn:=AP.f61) (e:=[(0,.aC c.s 0),(2,vp dl),(6,I (least+0:Nat)),(20,.bool true)]) (vs:=[]) rfl rfl rfl ?_ rfl
     simp only[I,CP]at *
     simp only[AP.f61,go_sem,lo,k1,gs1]
def wL (t : ByteArray) (most : Int) (ll dl : List Int) : Nat → Nat → List Nat → Rs
 |0,_,_=>.error 700
 | k + 1, p, out => match yi t ll 15 1 0 p with
   |none=>.error 700
   | some (y, p1) =>
     if y<256 then(if most≤out.length then .error 701 else wL t most ll dl k p1 (out++[y.toNat]))
     else if y=256 then .ok (p1,out)
     else match Bb t most dl y.toNat p1 out with
      | .ok (p2,o)=>wL t most ll dl k p2 o
      | .error e=>.error e
theorem EW {t : ByteArray} {most : Int} {dl : List Int} {y p : Nat} {out o : List Nat} {p2 : Nat} (h : Bb t most dl y p out = .ok (p2, o)) : p ≤ p2 ∧ p2 ≤ 8 * t.size := by
 unfold Bb at h
 split at h
 · cases h
 · split at h
   · split at h
     · cases h
     · rename_i hs
       have:=xP hs
       split at h
       · cases h
       · split at h
         · rename_i hq
           split at h
           · have:=Rj (fun r:Rs=>match r with| .ok q=>q.1|_=>0) h
             dsimp only at this
             omega
           · cases h
         · cases h
   · cases h
theorem BT {c:SC} {S:SS} {h:H} {ov:AV} (st:St c S h ov) (a b:AV) (hs:S.e≠0):
 ∃e',Lp AP.A [0,1,2] AP.f40L0 [(0,.aC c.s 0),(1,a),(2,b)] h=some (.exit 0,e',h):=by
 have gs:=st.gs
 refine⟨[(0,.aC c.s 0),(1,a),(2,b),(11,.bool false)],sK ?_⟩
 have c2:(S.e==0)=false:=tI hs
 simp only[I]at *
 simp only[AP.f40L0,go_sem,gs,c2]
theorem zC {c : SC} (ll dl : List Int) (hll : ll.length < 100000) (hdl : dl.length < 100000) : ∀ (k : Nat) (S : SS) (h : H) (ov : AV), St c S h ov → S.e = 0 → 8 * c.text.size < S.at_ + k →
 ∃e' h' ov' S',(Lp AP.A [0,1,2] AP.f40L0 [(0,.aC c.s 0),(1,vp ll),(2,vp dl)] h=some (.ret,e',h')∨Lp AP.A [0,1,2] AP.f40L0 [(0,.aC c.s 0),(1,vp ll),(2,vp dl)] h=some (.exit 0,e',h'))∧St c S' h' ov'∧Fr c h ov h' ov'∧Fin (wL c.text c.most ll dl k S.at_ S.out) S'
 |0,S,h,ov,st,he,hk=>by have:=st.xW;omega
 | k + 1, S, h, ov, st, he, hk => by
   have gs:=st.gs
   obtain⟨h1,S1,z,s1,s2,s3,s4⟩:=CI ll hll st he
   rw[wL]
   cases hz:yi c.text ll 15 1 0 S.at_ with
   | none =>
     rw[hz]at s4
     obtain⟨s4,s5⟩:=s4
     subst s5
     refine⟨[(0,.aC c.s 0),(1,vp ll),(2,vp dl),(6,I 256),(26,.bool true)],h1,ov,S1,.inl (te ?_),s2,s3,s4,by decide⟩
     simp only[I]at *
     simp only[AP.f40L0,go_sem,gs,he,s1]
   | some zp =>
     obtain⟨z2,p1⟩:=zp
     rw[hz]at s4
     obtain⟨s4,s5⟩:=s4
     subst s5 s4
     have zb:=xP hz
     obtain⟨y,hy⟩:∃n:Nat,z=n:=QP zb.1
     subst hy
     dsimp only
     by_cases c1:(y:Int)<256
     · rw[if_pos c1]
       have w1:IntKind.wrap .u8 (y:Int)=y:=wrap_u8 (by omega)
       obtain⟨h2,ov2,p1',p2',p3'⟩:=Jj s2 (b:=y)
       have step:aK (aQ AP.A) bo AP.f40L0 (ax [(0,.aC c.s 0),(1,vp ll),(2,vp dl)] [0,1,2]) h=some (.normal,[(0,.aC c.s 0),(1,vp ll),(2,vp dl)],h2):=by
        simp only[I]at *
        simp only[AP.f40L0,go_sem,gs,he,s1,QN c1,w1,p1']
       by_cases hm:c.most≤S.out.length
       · rw[if_pos hm]
         have hl:=AW (c:=c) (S:={S with at_:=p1}) y he hm
         obtain⟨e',q⟩:=BT p2' (vp ll) (vp dl) (by rw[hl];decide)
         exact⟨e',h2,ov2,_,.inr (sL step q),p2',s3.trans p3',hl,by decide⟩
       · rw[if_neg hm]
         rw[Es (S:={S with at_:=p1}) _ he hm]at p2'
         obtain⟨e',h',ov',S',q1,q2,q3,q4⟩:=zC ll dl hll hdl k _ h2 ov2 p2' rfl (by dsimp only;omega)
         refine⟨e',h',ov',S', ?_,q2,(s3.trans p3').trans q3,q4⟩
         rcases q1 with q1|q1
         · exact .inl (sL step q1)
         · exact .inr (sL step q1)
     · rw [if_neg c1]
       by_cases c2:(y:Int)=256
       · rw[if_pos c2]
         refine⟨[(0,.aC c.s 0),(1,vp ll),(2,vp dl),(6,I y),(26,.bool true)],h1,ov,_,.inl (te ?_),s2,s3, ?_⟩
         · have c2':=tJ c2
           simp only[I]at *
           simp only[AP.f40L0,go_sem,gs,he,s1,QL c1,c2']
         · simp only[Fin];rw[he]
       · rw[if_neg c2]
         have c2':=tI c2
         obtain⟨h2,ov2,S2,r1,r2,r3,r4⟩:=Ix dl hdl s2 he y (by omega)
         have step:aK (aQ AP.A) bo AP.f40L0 (ax [(0,.aC c.s 0),(1,vp ll),(2,vp dl)] [0,1,2]) h=some (.normal,[(0,.aC c.s 0),(1,vp ll),(2,vp dl)],h2):=by
          simp only[I]at *
          simp only[AP.f40L0,go_sem,gs,he,s1,QL c1,c2',r1]
         dsimp only at r4
         rw[Int.toNat_natCast]
         cases hc:Bb c.text c.most dl y p1 S.out with
         | error q =>
           rw[hc]at r4
           obtain⟨e',q'⟩:=BT r2 (vp ll) (vp dl) (by rw[r4.1];exact r4.2)
           exact⟨e',h2,ov2,S2,.inr (sL step q'),r2,s3.trans r3,r4⟩
         | ok q =>
           obtain⟨p2,o⟩:=q
           rw[hc]at r4
           simp only[Fin]at r4
           subst r4
           have hge:=EW hc
           obtain⟨e',h',ov',S',q1,q2,q3,q4⟩:=zC ll dl hll hdl k _ h2 ov2 r2 rfl (by dsimp only;omega)
           refine⟨e',h',ov',S', ?_,q2,(s3.trans r3).trans q3,q4⟩
           rcases q1 with q1|q1
           · exact .inl (sL step q1)
           · exact .inr (sL step q1)
theorem GQ {c:SC} {S:SS} {h:H} {ov:AV} (ll dl:List Int) (hll:ll.length<100000) (hdl:dl.length<100000) (st:St c S h ov) (he:S.e=0):
 ∃h' ov' S',aQ AP.A 40 [.aC c.s 0,vp ll,vp dl] h=some (.bJ [],h')∧St c S' h' ov'∧Fr c h ov h' ov'∧Fin (wL c.text c.most ll dl (8* c.text.size+1) S.at_ S.out) S':=by
 obtain⟨e',h',ov',S',q1,q2,q3,q4⟩:=zC ll dl hll hdl (8* c.text.size+1) S h ov st he (by omega)
 refine⟨h',ov',S', ?_,q2,q3,q4⟩
 rcases q1 with q1|q1
 · refine sZ (fn:=AP.f40) (e:=e') (vs:=[]) rfl rfl rfl ?_ rfl
   simp only[AP.f40,go_sem,rI,q1]
 · refine vM (fn:=AP.f40) (e:=[]) (vs:=[]) rfl rfl rfl ?_ rfl
   simp only[AP.f40,go_sem,rI,q1]
theorem vh (h:H):∀id c,h.get id=some c→h.dG.get id=some c:=fun _ _ q=>q
def B9 (P:AV→Bool):List AV→Nat→Int
 |[],_=> -1
 |v::r,i=>if P v then(i:Int)else B9 P r (i+1)
theorem E9 (P:AV→Bool):∀(l:List AV) (i:Nat),(0≤B9 P l i)↔l.any P=true
 |[],i=>by simp [B9]
 | v :: r, i => by
   rw[B9]
   by_cases h:P v
   · rw[if_pos h];simp [h]
   · rw[if_neg h,E9 P r];simp [h]
theorem Cc {x fv : AV} {cs : List AV} (P : AV → Bool) (hP : ∀ v ∈ cs, ∀ g : H, j0 (aQ AP.A) [v] g fv = some (.bool (P v), g)) (hl : cs.length < 1000000000) (h : H) (rd : Rd h x cs) :
 ∀ (m i : Nat), m + i = cs.length → (∃ e', Lp AP.A [0, 1, 7, 8] AP.f84L0 [(0, x), (1, fv), (7, I cs.length), (8, I i)] h = some (.exit 0, e', h) ∧ B9 P (cs.drop i) i = -1) ∨
   ∃e',Lp AP.A [0,1,7,8] AP.f84L0 [(0,x),(1,fv),(7,I cs.length),(8,I i)] h=some (.ret,e',h)∧look e' 4=I (B9 P (cs.drop i) i)
 | 0, i, hm => by
   left
   refine⟨[(0,x),(1,fv),(7,I cs.length),(8,I i),(9,.bool false)],sK ?_,by rw[List.drop_eq_nil_of_le (by omega)];rfl⟩
   have c1:¬(i:Int)<(cs.length:Int):=by omega
   simp only[I]at *
   simp only[AP.f84L0,go_sem,QL c1]
 | m + 1, i, hm => by
   have hi:i<cs.length:=by omega
   obtain⟨v,hv⟩:∃v,cs[i]?=some v:=⟨_,QJ hi⟩
   have hd:cs.drop i=v::cs.drop (i+1):=by
    rw[List.drop_eq_getElem_cons hi];rw[QJ hi]at hv;rw[ue hv]
   obtain⟨p,p1,p2⟩:=rd.elem hv
   have p3:=p2 h (fun _ _ q=>q)
   have c1:(i:Int)<(cs.length:Int):=by omega
   have hPv:=hP v (uC hv) h
   have w1:IntKind.wrap .i64 ((i:Int)+1)=((i+1:Nat):Int):=uY (n:=i+1) (by omega)
   rw[hd,B9]
   cases hb:P v with
   | true =>
     right
     rw[hb]at hPv
     rw[if_pos rfl]
     refine⟨[(4,I i)],te ?_,rfl⟩
     simp only[I]at *
     simp only[AP.f84L0,go_sem,QN c1,p1,p3,hPv]
   | false =>
     rw[hb]at hPv
     have step:aK (aQ AP.A) bo AP.f84L0 (ax [(0,x),(1,fv),(7,I cs.length),(8,I i)] [0,1,7,8]) h=some (.normal,[(0,x),(1,fv),(7,I cs.length),(8,I (i+1:Nat))],h):=by
      simp only[I]at *
      simp only[AP.f84L0,go_sem,QN c1,p1,p3,hPv,w1]
     rw[if_neg (by decide)]
     rcases Cc P hP hl h rd m (i+1) (by omega)with ⟨e',q1,q2⟩|⟨e',q1,q2⟩
     · exact .inl ⟨e',sL step q1,q2⟩
     · exact .inr ⟨e',sL step q1,q2⟩
theorem Kd {x fv:AV} {cs:List AV} (P:AV→Bool) (hP:∀v∈cs,∀g:H,j0 (aQ AP.A) [v] g fv=some (.bool (P v),g)) (hl:cs.length<1000000000) (h:H) (rd:Rd h x cs):
 aQ AP.A 84 [x,fv] h=some (I (B9 P cs 0),h):=by
 have rd':=rd.mono (vh h)
 have ln:=rd.len
 rcases Cc P hP hl h.dG rd' cs.length 0 (by omega)with ⟨e',q1,q2⟩|⟨e',q1,q2⟩
 · rw[Q2]at q2
   rw[q2]
   refine tC (fn:=AP.f84) (h2:=h.dG) (e:=[(4,I (-1))]) rfl rfl rfl ?_ rfl rfl
   have q1':Lp AP.A [0,1,7,8] AP.f84L0 [(0,x),(1,fv),(7,I cs.length),(8,I 0)] h.dG=some (.exit 0,e',h.dG):=q1
   clear q1
   simp only[I]at *
   simp only[AP.f84,go_sem,rI,ln,q1']
 · rw[Q2]at q2
   refine tC (fn:=AP.f84) (h2:=h.dG) (e:=e') (vs:=[I (B9 P cs 0)]) rfl rfl rfl ?_ (by simp only[AP.f84,cm,mP,q2];rfl) rfl
   have q1':Lp AP.A [0,1,7,8] AP.f84L0 [(0,x),(1,fv),(7,I cs.length),(8,I 0)] h.dG=some (.ret,e',h.dG):=q1
   clear q1
   simp only[I]at *
   simp only[AP.f84,go_sem,rI,ln,q1']
theorem BV {x fv:AV} {cs:List AV} (P:AV→Bool) (hP:∀v∈cs,∀g:H,j0 (aQ AP.A) [v] g fv=some (.bool (P v),g)) (hl:cs.length<1000000000) (h:H) (rd:Rd h x cs):
 aQ AP.A 83 [x,fv] h=some (.bool (cs.any P),h):=by
 have k1:=Kd P hP hl h.dG (rd.mono (vh h))
 have ha:=E9 P cs 0
 refine tC (fn:=AP.f83) (h2:=h.dG) (e:=[(4,.bool (cs.any P))]) rfl rfl rfl ?_ rfl rfl
 cases hb:cs.any P with
 | true =>
   have c1:0≤B9 P cs 0:=ha.2 hb
   simp only[I]at *
   simp only[AP.f83,go_sem,k1,QN c1]
 | false =>
   have c1:¬0≤B9 P cs 0:=by rw[ha,hb];decide
   simp only[I]at *
   simp only[AP.f83,go_sem,k1,QL c1]
def DX (v:AV):Bool:=match v with| .int _ n=>decide (n<0)||decide (15<n)|_=>true
theorem NK (n:Int) (h:H):aQ AP.A 82 [I n] h=some (.bool (DX (I n)),h):=by
 by_cases c1:n<0
 · refine tC (fn:=AP.f82) (h2:=h.dG) (e:=[(2,.bool true)]) rfl rfl rfl ?_ rfl ?_
   · simp only[I]at *
     simp only[AP.f82,go_sem,QN c1]
   · simp [DX,I,c1];rfl
 · refine tC (fn:=AP.f82) (h2:=h.dG) (e:=[(2,.bool (decide (15<n)))]) rfl rfl rfl ?_ rfl ?_
   · simp only[I]at *
     simp only[AP.f82,go_sem,QL c1]
   · simp [DX,I,c1];rfl
def zJ (l:List Int):Bool:=decide (1≤l.length)&&decide (l.length≤288)&& !((ints l).any DX)
theorem KE (h:H) (x:AV) (l:List Int) (hl:l.length<100000) (rd:Rd h x (ints l)):aQ AP.A 81 [x] h=some (.bool (zJ l),h):=by
 have hP:∀v∈ints l,∀g:H,j0 (aQ AP.A) [v] g (.fn 82 [] [])=some (.bool (DX v),g):=by
  intro v hv g
  obtain⟨n,_,rfl⟩:=QR.1 hv
  rw[nr];exact NK n g
 have k1:=BV DX hP (by simp;omega) h.dG (rd.mono (vh h))
 have ln:=rd.len
 rw[pg]at ln
 refine tC (fn:=AP.f81) (h2:=h.dG) (e:=[(2,.bool (zJ l))]) rfl rfl rfl ?_ rfl rfl
 unfold zJ
 by_cases c1:1≤l.length
 · have c1':(1:Int)≤(l.length:Int):=by omega
   by_cases c2:l.length≤288
   · have c2':(l.length:Int)≤288:=by omega
     simp only[I]at *
     simp only[AP.f81,go_sem,ln,QN c1',QN c2',QN c1,QN c2,k1,Bool.true_and]
   · have c2':¬(l.length:Int)≤288:=by omega
     simp only[I]at *
     simp only[AP.f81,go_sem,ln,QN c1',QL c2',QN c1,QL c2,Bool.true_and,Bool.false_and]
 · have c1':¬(1:Int)≤(l.length:Int):=by omega
   simp only[I]at *
   simp only[AP.f81,go_sem,ln,QL c1',QL c1,Bool.false_and]
def vk (l:List Int):Int:=if zJ l=false then 300 else if vj l 15<0 then 301 else if 0<vj l 15 then 302 else 0
theorem AR {l:List Int} (h:zJ l=true):∀y∈l,0≤y∧y<16:=by
 intro y hy
 simp only[zJ,ux,Bool.not_eq_true',List.any_eq_false]at h
 have:=h.2 (I y) (QR.2 ⟨y,hy,rfl⟩)
 simp [DX,I]at this
 omega
theorem DZ (h : H) (x : AV) (l : List Int) (hl : l.length < 100000) (rd : Rd h x (ints l)) : aQ AP.A 65 [x] h = some (I (vk l), h) := by
 have rd':=rd.mono (vh h)
 have k1:=KE h.dG x l hl rd'
 unfold vk
 by_cases hm:zJ l=true
 · have k2:=yT h.dG x l hl (AR hm) rd'
   have hb:vp l=.aJ (mY 49 (wc l)) 0:=rfl
   have g:(mY 49 (wc l))[48]?=some (I (vj l 15)):=by rw[fA (by omega)];rfl
   rw[hb]at k2
   clear hb
   generalize mY 49 (wc l)=T at k2 g
   rw[hm]at k1 ⊢
   rw[if_neg (by decide)]
   by_cases c1:vj l 15<0
   · rw[if_pos c1]
     refine tC (fn:=AP.f65) (h2:=h.dG) (e:=[(2,I 301)]) rfl rfl rfl ?_ rfl rfl
     simp only[I]at *
     simp only[AP.f65,go_sem,k1,k2,g,QN c1]
   · rw[if_neg c1]
     by_cases c2:0<vj l 15
     · rw[if_pos c2]
       refine tC (fn:=AP.f65) (h2:=h.dG) (e:=[(2,I 302)]) rfl rfl rfl ?_ rfl rfl
       simp only[I]at *
       simp only[AP.f65,go_sem,k1,k2,g,QL c1,QN c2]
     · rw[if_neg c2]
       refine tC (fn:=AP.f65) (h2:=h.dG) (e:=[(2,I 0)]) rfl rfl rfl ?_ rfl rfl
       simp only[I]at *
       simp only[AP.f65,go_sem,k1,k2,g,QL c1,QL c2]
 · have hm':zJ l=false:=by simpa using hm
   rw[hm']at k1 ⊢
   rw[if_pos rfl]
   refine tC (fn:=AP.f65) (h2:=h.dG) (e:=[(2,I 300)]) rfl rfl rfl ?_ rfl rfl
   simp only[I]at *
   simp only[AP.f65,go_sem,k1]
def JC:List Int→Int→Int
 |[],s=>s
 |x::r,s=>JC r (s+x)
theorem Bn {x:AV} {l:List Int} (hl:l.length<100000) (hr:∀y∈l,0≤y∧y<16) (h:H) (rd:Rd h x (ints l)):
 ∀(q p:List Int) (s:Int),l=p++q→0≤s→s≤16* p.length→∃e',Lp AP.A [3,6,7,8] AP.f66L0 [(3,I s),(6,x),(7,I l.length),(8,I p.length)] h=some (.exit 0,e',h)∧look e' 3=I (JC q s)
 | [], p, s, hpq, hs0, hs1 => by
   refine⟨[(3,I s),(6,x),(7,I l.length),(8,I p.length),(9,.bool false)],sK ?_,rfl⟩
   have c1:¬(p.length:Int)<(l.length:Int):=by rw[hpq];simp
   simp only[I]at *
   simp only[AP.f66L0,go_sem,QL c1]
 | y :: q, p, s, hpq, hs0, hs1 => by
   have hlen:l.length=p.length+(q.length+1):=by rw[hpq];simp
   have c1:(p.length:Int)<(l.length:Int):=by omega
   have hy:=hr y (by rw[hpq];simp)
   have hv:(ints l)[p.length]?=some (I y):=sg (by rw[hpq];simp)
   obtain⟨a,p1,p2⟩:=rd.elem hv
   have p3:=p2 h (fun _ _ q=>q)
   have w1:IntKind.wrap .i64 (s+y)=s+y:=s9 (by omega) (by omega)
   have w2:IntKind.wrap .i64 ((p.length:Int)+1)=(((p++[y]).length:Nat):Int):=by
    rw[uS];exact uY (n:=p.length+1) (by omega)
   have step:aK (aQ AP.A) bo AP.f66L0 (ax [(3,I s),(6,x),(7,I l.length),(8,I p.length)] [3,6,7,8]) h=some (.normal,[(3,I (s+y)),(6,x),(7,I l.length),(8,I (p++[y]).length)],h):=by
    simp only[I]at *
    simp only[AP.f66L0,rX,qh,qe,qg,qf,ou,sC,sB,rY,rZ,r9,r8,rU,rW,rT,rS,rN,rP,ri,rj,pF,mZ,mo,mC,kH,rK,rJ,oC,oD,sE,qL,sy,qx,oe,nZ,Nat.reduceEqDiff,ne_eq,not_false_eq_true,lj,kW,QN c1,p1,p3,w1,w2]
   obtain⟨e',q1,q2⟩:=Bn hl hr h rd q (p++[y]) (s+y) (by rw[hpq];simp) (by omega) (by simp;omega)
   exact⟨e',sL step q1,q2⟩
def wT (l:List Int):Bool:=decide (JC l 0≤1)
theorem Jq (h:H) (x:AV) (l:List Int) (hl:l.length<100000) (hr:∀y∈l,0≤y∧y<16) (rd:Rd h x (ints l)):aQ AP.A 66 [x] h=some (.bool (wT l),h):=by
 have rd':=rd.mono (vh h)
 have ln:=rd.len
 rw[pg]at ln
 obtain⟨e',q1,q2⟩:=Bn hl hr h.dG rd' l [] 0 rfl (by omega) (by simp)
 have q1':Lp AP.A [3,6,7,8] AP.f66L0 [(3,I 0),(6,x),(7,I l.length),(8,I 0)] h.dG=some (.exit 0,e',h.dG):=q1
 clear q1
 refine tC (fn:=AP.f66) (h2:=h.dG) (e:=[(2,.bool (wT l))]) rfl rfl rfl ?_ rfl rfl
 simp only[I,wT]at *
 simp only[AP.f66,go_sem,rI,ln,q1',q2]
theorem CR {n:Nat} (h:n<18446744073709551616):IntKind.wrap .u64 (n:Int)=n:=by
 have e:IntKind.wrap .u64 (n:Int)=(n:Int)%18446744073709551616:=by simp [IntKind.wrap,IntKind.bits,IntKind.signed]
 rw[e];omega
theorem BH {a:Nat} (ha:a<4294967296):bits .and .u64 (a:Int) 4294967295=(a:Int):=by
 show IntKind.wrap .u64 (((BitVec.ofInt 64 (a:Int)&&&BitVec.ofInt 64 ((4294967295:Nat):Int)).toNat:Nat):Int)=_
 rw[BitVec.toNat_and,xz 64 a (by omega),xz 64 4294967295 (by omega)]
 rw[show 4294967295=2^32-1 from rfl,Nat.and_two_pow_sub_one_eq_mod,Nat.mod_eq_of_lt (by simpa using ha)]
 exact CR (by omega)
theorem Hk {a:Nat} (ha:a<4294967296):oN .shr .u64 (a:Int) 32=some (.int .u64 0):=by
 have:(a:Int).fdiv 4294967296=0:=by rw[Int.fdiv_eq_ediv_of_nonneg _ (by omega)];omega
 simp [oN,IntKind.bits,this]
theorem Kh (h:H) (a b:Nat) (ha:a<4294967296) (hb:b<4294967296) (hab:a* b<4294967296):aQ AP.A 78 [.int .u64 a,.int .u64 b] h=some (.bJ [.int .u64 0,.int .u64 (a* b:Nat)],h):=by
 have a1:=BH ha
 have a2:=BH hb
 have s1:=Hk ha
 have s2:=Hk hb
 have s3:=Hk hab
 have w1:IntKind.wrap .u64 ((a:Int)* b)=((a* b:Nat):Int):=by rw[show(a:Int)* b=((a* b:Nat):Int)by simp];exact CR (by omega)
 have w0:IntKind.wrap .u64 0=0:=by decide
 have z1:(0:Int)* b=0:=by omega
 have z2:(a:Int)* 0=0:=by omega
 have s0:oN .shr .u64 0 32=some (.int .u64 0):=Hk (a:=0) (by omega)
 have a0:bits .and .u64 0 4294967295=0:=BH (a:=0) (by omega)
 refine tC (fn:=AP.f78) (h2:=h.dG) (e:=[(4,.int .u64 0),(5,.int .u64 (a* b:Nat))]) rfl rfl rfl ?_ rfl rfl
 simp only[AP.f78,go_sem,a1,a2,s1,s2,s3,w1,w0,z1,z2,s0,a0,Int.zero_mul,Int.add_zero]
theorem O9 (h:H) (a b:Nat) (ha:a<4294967296) (hb:b<4294967296) (hab:a* b<4294967296):aQ AP.A 63 [.int .u64 a,.int .u64 b] h=some (.bJ [.int .u64 0,.int .u64 (a* b:Nat)],h):=by
 have k:=Kh h.dG a b ha hb hab
 refine tC (fn:=AP.f63) (h2:=h.dG) (e:=[(4,.int .u64 0),(5,.int .u64 (a* b:Nat))]) rfl rfl rfl ?_ rfl rfl
 simp only[AP.f63,go_sem,k]
theorem xO:∀(B V A C:List AV),V.length=B.length→setFrom (A++(B++C)) A.length V=A++(V++C)
 |[],[],A,C,_=>rfl
 | b :: B, v :: V, A, C, h => by
   rw[oM]
   have h1:(A++(b::B++C)).set A.length v=(A++[v])++(B++C):=by
    rw[List.set_append_right _ _ (uw _)];simp
   rw[h1]
   have h2:=xO B V (A++[v]) C (by simpa using h)
   rw[uS]at h2
   rw[show A.length+1=A.length+[v].length by rfl,h2];simp
 |[],v::V,A,C,h=>by simp at h
 |b::B,[],A,C,h=>by simp at h
theorem Hv (n:Nat) {v:AV} (hv:v.sc=true):AV.aB (List.replicate n v)=true:=by
 induction n with
 |zero=>rfl
 |succ n ih=>rw[List.replicate_succ,pK,hv,ih];rfl
theorem Eu (v:AV):∀n,dx n [v]=List.replicate n v
 |0=>rfl
 |n+1=>by rw[dx,Eu v n];rfl
theorem Jn {k y:Nat} (h:k≤y):jR (I k) y=some k:=by
 simp [jR,ni,I];omega
theorem Iq {h:H} {id N k:Nat} {cs:List AV} (hg:h.get id=some cs) (hN:cs.length=N) (hk:k≤N):rD h 1 (.aD id 0 N 1) (some (I k)) none none=some (.aD id k (N-k) 1):=by
 simp [rD,hg,hN,aA,Jn hk]
theorem Gb {h:H} {id N M k:Nat} {cs:List AV} (hg:h.get id=some cs) (hN:cs.length=N) (hM:M≤N) (hk:k≤N):rD h 1 (.aD id 0 M 1) none (some (I k)) none=some (.aD id 0 k 1):=by
 have:jR (I k) N=some k:=Jn hk
 simp [rD,hg,hN,aA,this,hM]
def yB (v:AV) (k N:Nat):List AV:=List.replicate k v++List.replicate (N-k) (I 0)
theorem Jk {v:AV} {k N:Nat} (h:k≤N):(yB v k N).length=N:=by simp [yB];omega
theorem FL {v:AV} {k N m:Nat} (h:k+m≤N):setFrom (yB v k N) k (List.replicate m v)=yB v (k+m) N:=by
 have e:List.replicate (N-k) (I 0)=List.replicate m (I 0)++List.replicate (N-(k+m)) (I 0):=by
  rw[List.replicate_append_replicate];congr 1;omega
 have:=xO (List.replicate m (I 0)) (List.replicate m v) (List.replicate k v) (List.replicate (N-(k+m)) (I 0)) (by simp)
 rw[QX]at this
 rw[yB,e,this,yB,←QU,List.replicate_append_replicate]
theorem Bl (v : AV) (hv : v.sc = true) (N id : Nat) (hN : N < 1000000000) : ∀ (f k : Nat) (h : H), N - k ≤ f → 0 < k → k ≤ N → h.get id = some (yB v k N) → h.floor ≤ id →
 ∃e' h',Lp AP.A [7,8] AP.f43L0 [(7,.aD id 0 N 1),(8,I k)] h=some (.exit 0,e',h')∧look e' 7=.aD id 0 N 1∧h'.get id=some (yB v N N)∧h'.next=h.next
 | f, k, h, hf, hk, hkN, hg, hfl => by
   by_cases hlt:k<N
   · have c1:(k:Int)<(N:Int):=by omega
     have hlen:=Jk (v:=v) hkN
     have s1:=Iq hg hlen hkN
     have s2:=Gb hg hlen (uw N) hkN
     obtain⟨m,hm⟩:∃m,m=Nat.min k (N-k):=⟨_,rfl⟩
     have hm1:0<m∧m≤k∧k+m≤N:=by
      rw[hm];have:Nat.min k (N-k)=min k (N-k):=rfl
      rw[this];omega
     have hsrc:aR h 1 (.aD id 0 k 1)=some (k,List.replicate k v):=by
      simp only[aR,if_true,hg,uq]
      rw[if_pos (by rw[hlen];omega)]
      simp [yB]
     have cp:gM h 1 (.aD id k (N-k) 1) (.aD id 0 k 1)=some (I m,h.set id (yB v (k+m) N)):=by
      unfold gM
      rw[hsrc,uq]
      simp only[Hv k hv,hfl,and_self,true_and,if_true,hg,uq,hlen]
      rw[if_pos (by omega),←hm,Nat.mul_one,List.take_replicate,Nat.min_eq_left hm1.2.1,FL hm1.2.2];rfl
     have w1:IntKind.wrap .i64 ((k:Int)+m)=((k+m:Nat):Int):=by rw[show(k:Int)+m=((k+m:Nat):Int)by omega];exact uY (by omega)
     have al:iH false (.aD id 0 N 1)=some (I N):=rfl
     have step:aK (aQ AP.A) bo AP.f43L0 (ax [(7,.aD id 0 N 1),(8,I k)] [7,8]) h=some (.normal,[(7,.aD id 0 N 1),(8,I (k+m:Nat))],h.set id (yB v (k+m) N)):=by
      simp only[I]at *
      simp only[AP.f43L0,go_sem,al,QN c1,QM,Rg,s1,s2,cp,w1]
     match f,hf with
     |0,hf=>omega
     | f + 1, hf =>
       obtain⟨e',h',q1,q2,q3,q4⟩:=Bl v hv N id hN f (k+m) (h.set id (yB v (k+m) N)) (by omega) (by omega) (by omega) (by rw[H.dd,if_pos rfl,hg];rfl) (by simpa using hfl)
       exact⟨e',h',sL step q1,q2,q3,by rw[q4];simp⟩
   · have hkN':k=N:=by omega
     subst hkN'
     have c1:¬(k:Int)<(k:Int):=by omega
     have al:iH false (.aD id 0 k 1)=some (I k):=rfl
     refine⟨[(7,.aD id 0 k 1),(8,I k),(37,.bool false)],h,sK ?_,rfl,hg,rfl⟩
     simp only[I]at *
     simp only[AP.f43L0,go_sem,al,QL c1]
theorem xF (h : H) (x : AV) (y : Int) (N : Nat) (hN : N < 1000000000) (rd : Rd h x [I y]) : aQ AP.A 43 [x, I N] h = some (.aU false (ints (List.replicate N y)) 0 N 1, h) := by
 have rd':=rd.mono (vh h)
 have ln:=rd.len
 have mc:=O9 h.dG 1 N (by omega) (by omega) (by omega)
 rw[Nat.one_mul]at mc
 have mc':aQ AP.A 63 [.int .u64 1,.int .u64 N] h.dG=some (.bJ [.int .u64 0,.int .u64 N],h.dG):=mc
 clear mc
 have c0:¬(N:Int)<0:=by omega
 have w1:IntKind.wrap .u64 1=1:=by decide
 have w2:IntKind.wrap .u64 (N:Int)=N:=CR (by omega)
 have w3:IntKind.wrap .i64 (N:Int)=N:=uY (by omega)
 have c1:¬(0:Int)<0:=by omega
 have c2:¬(9223372036854775807:Int)<(N:Int):=by omega
 obtain⟨id,hid⟩:∃i,i=h.next:=⟨_,rfl⟩
 obtain⟨g1,hg1⟩:∃g,g=h.dG.alloc (List.replicate N (I 0)):=⟨_,rfl⟩
 have e1:g1.get id=some (List.replicate N (I 0)):=by rw[hg1,H.aV,if_pos (by rw[hid];rfl)]
 have bt:aX [(29,I N),(28,.int .u64 N),(0,x),(6,.int .u64 N)] (.iy 1 8 [I 0] (.t 29) (.t 29))=some (List.replicate N (I 0),fun i=>.aD i 0 N 1):=by
  have c3:(8:Int)* N≤281474976710656:=by omega
  have c4:(N:Int)≤9223372036854775807:=by omega
  simp [aX,I,Eu,c3,c4]
 have hcp : ∃ (k : Nat) (h2 : H), gM g1 1 (.aD id 0 N 1) x = some (I k, h2) ∧ ((k = 0 ∧ N = 0) ∨ (k = 1 ∧ 0 < N)) ∧ h2.get id = some (yB (I y) k N) ∧ h2.floor = h.next ∧ h2.next = g1.next := by
  have rd2:aR g1 1 x=some (1,[I y]):=(rd.mono (fun i c q=>by rw[hg1,H.aV,if_neg (by have:=h.lt _ _ q;show i≠h.next;omega)];exact q)).1
  refine⟨Nat.min 1 N,g1.set id (yB (I y) (Nat.min 1 N) N), ?_, ?_,by rw[H.dd,if_pos rfl,e1];rfl,by rw[hg1];simp,by simp⟩
  · unfold gM
    rw[rd2,uq]
    have hf:g1.floor≤id:=by rw[hg1,hid];simp
    have ha:AV.aB [I y]=true:=rfl
    simp only[ha,hf,and_self,true_and,if_true,e1,uq,QX]
    rw[if_pos (by omega),Nat.mul_one]
    have hz:List.replicate N (I 0)=yB (I y) 0 N:=by simp [yB]
    rw[hz]
    have ht:[I y].take (Nat.min 1 N)=List.replicate (Nat.min 1 N) (I y):=by
     cases N with
     |zero=>rfl
     | succ n => have : Nat.min 1 (n + 1) = 1 := by show min 1 (n + 1) = 1; omega
                 rw[this];rfl
    rw[ht,FL (by show 0+min 1 N≤N;omega),uD];rfl
  · cases N with
    |zero=>left;exact⟨rfl,rfl⟩
    |succ n=>right;exact⟨by show min 1 (n+1)=1;omega,by omega⟩
 obtain⟨k,h2,cp1,cp2,cp3,cp4,cp5⟩:=hcp
 have lp:∃e' h3,Lp AP.A [7,8] AP.f43L0 [(7,.aD id 0 N 1),(8,I k)] h2=some (.exit 0,e',h3)∧look e' 7=.aD id 0 N 1∧h3.get id=some (yB (I y) N N):=by
  rcases cp2 with ⟨rfl,rfl⟩|⟨rfl,hN0⟩
  · refine⟨[(7,.aD id 0 0 1),(8,I 0),(37,.bool false)],h2,sK ?_,rfl,cp3⟩
    have al:iH false (.aD id 0 0 1)=some (I 0):=rfl
    simp only[I]at *
    simp only[AP.f43L0,go_sem,al,Int.natCast_zero]
  · obtain⟨e',h',q1,q2,q3,_⟩:=Bl (I y) rfl N id hN N 1 h2 (by omega) (by omega) (by omega) cp3 (by rw[cp4,hid];exact uw _)
    exact⟨e',h',q1,q2,q3⟩
 obtain⟨e',h3,q1,q2,q3⟩:=lp
 refine tC (fn:=AP.f43) (h2:=h3) (e:=[(4,.aD id 0 N 1)]) (vs:=[.aD id 0 N 1]) rfl rfl rfl ?_ rfl ?_
 · have al:iH false x=some (I 1):=ln
   have hn:h.dG.next=id:=by rw[hid];rfl
   simp only[I]at *
   simp only[AP.f43,go_sem,al,QL c0,w1,w2,w3,mc',QL c1,QL c2,bt,←hg1,hn,cp1,rI,q1,q2]
 · have hr:yB (I y) N N=ints (List.replicate N y):=by simp [yB,ints]
   show snap h3.get h.next 16 true (.aD id 0 N 1)=_
   unfold snap
   rw[if_neg (by omega),q3,uq,hr,if_pos (by simp)]
   have ht:((ints (List.replicate N y)).drop 0).take (N* 1)=ints (List.replicate N y):=by
    rw[Q2,Nat.mul_one,uN (by simp)]
   rw[ht,wX];rfl
theorem M9 (h:H) (N:Nat) (hN0:0<N) (hN:N<1000000000):aQ AP.A 76 [.aO,I N] h=some (.aD h.next 0 0 1,h.alloc (List.replicate N (I 0))):=by
 have c0:¬(N:Int)<0:=by omega
 have c1:(0:Int)<N:=by omega
 have w0:IntKind.wrap .i64 (0-0)=0:=by decide
 have w1:IntKind.wrap .i64 ((N:Int)-0)=N:=by rw[Int.sub_zero];exact uY (by omega)
 have a1:pG .aO=some (I 0):=rfl
 have a2:iH false .aO=some (I 0):=rfl
 have a3:rD h 1 .aO none (some (I 0)) none=some .aO:=rfl
 have a4:gK h 1 8 [I 0] .aO (I N)=some (.aD h.next 0 N 1,h.alloc (List.replicate N (I 0))):=by
  have c3:(N:Int)≤281474976710656:=by omega
  have c4:(N:Int)* 8≤281474976710656:=by omega
  have c5:roomy 8 N=true:=by simp [roomy];omega
  simp [gK,I,c3,c4,c5,Eu,hN0]
 have a5:rD (h.alloc (List.replicate N (I 0))) 1 (.aD h.next 0 N 1) none (some (I 0)) none=some (.aD h.next 0 0 1):=
  Gb (by rw[H.aV,if_pos rfl]) (by simp) (uw _) (Nat.zero_le _)
 refine sZ (fn:=AP.f76) (e:=[(4,.aD h.next 0 0 1)]) rfl rfl rfl ?_ rfl
 simp only[I]at *
 simp only[AP.f76,go_sem,QL c0,QN c1,w0,w1,a1,a2,QM,Rg,a3,a4,a5]
def cat (ps:List (AV×List Int)):List Int:=ps.flatMap (·.2)
theorem EO (p:AV×List Int) (ps:List (AV×List Int)):cat (p::ps)=p.2++cat ps:=by simp [cat]
theorem z9 {h:H} {x:AV} {all:List (AV×List Int)} (rd:Rd h x (all.map (·.1))) (hp:∀p∈all,Rd h p.1 (ints p.2)) (hT:(cat all).length<1000000000) (hA:all.length<1000000000):
 ∀(ps qs:List (AV×List Int)),all=qs++ps→
 ∃e',Lp AP.A [0,3,9,10,11] AP.f62L1 [(0,x),(3,I (cat qs).length),(9,x),(10,I all.length),(11,I qs.length)] h=some (.exit 0,e',h)∧look e' 0=x∧look e' 3=I (cat all).length
 | [], qs, hq => by
   rw[Q0]at hq;subst hq
   refine⟨[(0,x),(3,I (cat all).length),(9,x),(10,I all.length),(11,I all.length),(12,.bool false)],sK ?_,rfl,rfl⟩
   have c1:¬(all.length:Int)<(all.length:Int):=by omega
   simp only[I]at *
   simp only[AP.f62L1,go_sem,QL c1]
 | p :: ps, qs, hq => by
   have hlen:all.length=qs.length+(ps.length+1):=by rw[hq];simp
   have hct:(cat all).length=(cat qs).length+(p.2.length+(cat ps).length):=by rw[hq];simp [cat]
   have c1:(qs.length:Int)<(all.length:Int):=by omega
   have hv:(all.map (·.1))[qs.length]?=some p.1:=by rw[hq];simp
   obtain⟨a,p1,p2⟩:=rd.elem hv
   have p3:=p2 h (fun _ _ q=>q)
   have ln:=(hp p (by rw[hq];simp)).len
   rw[pg]at ln
   have w1:IntKind.wrap .i64 (((cat qs).length:Int)+p.2.length)=((cat (qs++[p])).length:Int):=by
    rw[show((cat qs).length:Int)+p.2.length=((cat (qs++[p])).length:Int)by simp [cat]];exact uY (by simp [cat]at *;omega)
   have c2:¬((cat (qs++[p])).length:Int)<0:=by omega
   have w2:IntKind.wrap .i64 ((qs.length:Int)+1)=((qs++[p]).length:Int):=by
    rw[uS];exact uY (n:=qs.length+1) (by omega)
   obtain⟨e',q1,q2,q3⟩:=z9 rd hp hT hA ps (qs++[p]) (by rw[hq];simp)
   have step:aK (aQ AP.A) bo AP.f62L1 (ax [(0,x),(3,I (cat qs).length),(9,x),(10,I all.length),(11,I qs.length)] [0,3,9,10,11]) h=some (.normal,[(0,x),(3,I (cat (qs++[p])).length),(9,x),(10,I all.length),(11,I (qs++[p]).length)],h):=by
    generalize hB:(qs++[p]).length=B at *
    simp only[I]at *
    simp only[AP.f62L1,go_sem,QN c1,p1,p3,ln,w1,QL c2,w2]
   exact⟨e',sL step q1,q2,q3⟩
theorem Aa {h0 : H} {x : AV} {all : List (AV × List Int)} (rd : Rd h0 x (all.map (·.1))) (hp : ∀ p ∈ all, Rd h0 p.1 (ints p.2)) (hT : (cat all).length < 1000000000) (hA : all.length < 1000000000) (id : Nat) (hid : h0.next ≤ id) :
 ∀(ps qs:List (AV×List Int)) (h:H),all=qs++ps→h.floor≤id→h.get id=some (ints (cat qs)++List.replicate (cat ps).length (I 0))→(∀i c,h0.get i=some c→h.get i=some c)→
 ∃e' h',Lp AP.A [6,25,26,27] AP.f62L0 [(6,.aD id 0 (cat qs).length 1),(25,x),(26,I all.length),(27,I qs.length)] h=some (.exit 2,e',h')∧look e' 6=.aD id 0 (cat all).length 1∧h'.get id=some (ints (cat all))
 | [], qs, h, hq, hf, hg, hm => by
   rw[Q0]at hq;subst hq
   refine⟨[(6,.aD id 0 (cat all).length 1),(25,x),(26,I all.length),(27,I all.length),(28,.bool false)],h,sK ?_,rfl,by rw[hg];simp [cat]⟩
   have c1:¬(all.length:Int)<(all.length:Int):=by omega
   simp only[I]at *
   simp only[AP.f62L0,go_sem,QL c1]
 | p :: ps, qs, h, hq, hf, hg, hm => by
   have hlen:all.length=qs.length+(ps.length+1):=by rw[hq];simp
   have hct:(cat all).length=(cat qs).length+(p.2.length+(cat ps).length):=by rw[hq];simp [cat]
   have hcq:(cat (qs++[p])).length=(cat qs).length+p.2.length:=by simp [cat]
   have c1:(qs.length:Int)<(all.length:Int):=by omega
   have hv:(all.map (·.1))[qs.length]?=some p.1:=by rw[hq];simp
   obtain⟨a,p1,p2⟩:=rd.elem hv
   have p3:=p2 h hm
   have src:=((hp p (by rw[hq];simp)).mono hm).1
   rw[pg]at src
   have w2:IntKind.wrap .i64 ((qs.length:Int)+1)=((qs++[p]).length:Int):=by
    rw[uS];exact uY (n:=qs.length+1) (by omega)
   have hz:List.replicate (cat (p::ps)).length (I 0)=List.replicate p.2.length (I 0)++List.replicate (cat ps).length (I 0):=by
    rw[List.replicate_append_replicate,EO,uS]
   have hap:∃h1,kd h 1 8 (.aD id 0 (cat qs).length 1) p.1=some (.aD id 0 (cat (qs++[p])).length 1,h1)∧h1.floor=h.floor∧h1.get id=some (ints (cat (qs++[p]))++List.replicate (cat ps).length (I 0))∧∀i c,h0.get i=some c→h1.get i=some c:=by
    by_cases h0':p.2.length=0
    · have hp2:p.2=[]:=List.length_eq_zero_iff.1 h0'
      refine⟨h, ?_,rfl, ?_,hm⟩
      · unfold kd
        rw[src,uq]
        unfold dC
        rw[if_pos (by simp [h0']),hcq,h0',Nat.add_zero]
      · rw[hg,EO,hp2];simp [cat,hp2]
    · refine⟨h.set id (ints (cat (qs++[p]))++List.replicate (cat ps).length (I 0)), ?_,by simp,by rw[H.dd,if_pos rfl,hg];rfl,fun i c q=> ?_⟩
      · unfold kd
        rw[src,uq]
        have hs:setFrom (ints (cat qs)++List.replicate (cat (p::ps)).length (I 0)) (cat qs).length (ints p.2)=ints (cat (qs++[p]))++List.replicate (cat ps).length (I 0):=by
         have:=xO (List.replicate p.2.length (I 0)) (ints p.2) (ints (cat qs)) (List.replicate (cat ps).length (I 0)) (by simp)
         rw[pg]at this
         rw[hz,this];simp [cat,pf]
        unfold dC
        dsimp only
        rw[if_neg h0',if_neg (by simp [jt])]
        rw[if_pos ⟨rfl,hf⟩,hg,uq,if_pos (by rw[hz];simp)]
        rw[Nat.mul_one,uD,hs,hcq]
      · rw[H.dd,if_neg (by have:=h0.lt _ _ q;omega)];exact hm i c q
   obtain⟨h1,ap1,ap2,ap3,ap4⟩:=hap
   obtain⟨e',h',q1,q2,q3⟩:=Aa rd hp hT hA id hid ps (qs++[p]) h1 (by rw[hq];simp) (by rw[ap2];exact hf) ap3 ap4
   have step:aK (aQ AP.A) bo AP.f62L0 (ax [(6,.aD id 0 (cat qs).length 1),(25,x),(26,I all.length),(27,I qs.length)] [6,25,26,27]) h=some (.normal,[(6,.aD id 0 (cat (qs++[p])).length 1),(25,x),(26,I all.length),(27,I (qs++[p]).length)],h1):=by
    generalize hB:(qs++[p]).length=B at *
    simp only[I]at *
    simp only[AP.f62L0,go_sem,QN c1,p1,p3,ap1,w2]
   exact⟨e',h',sL step q1,q2,q3⟩
def vN (l:List Int):AV:=.aU false (ints l) 0 l.length 1
theorem xh (h:H) (l:List Int):Rd h (vN l) (ints l):=by
 refine⟨?_,by intro s e;cases e⟩
 simp [aR,vN,uN]
theorem BU (h:H) (x:AV) (ps:List (AV×List Int)) (rd:Rd h x (ps.map (·.1))) (hp:∀p∈ps,Rd h p.1 (ints p.2)) (hT:(cat ps).length<1000000000) (hA:ps.length<1000000000) (h0:0<(cat ps).length):aQ AP.A 62 [x] h=some (vN (cat ps),h):=by
 have rd':=rd.mono (vh h)
 have hp':∀p∈ps,Rd h.dG p.1 (ints p.2):=fun p q=>(hp p q).mono (vh h)
 have ln:=rd.len
 rw[Rk]at ln
 obtain⟨e1,a1,a2,a3⟩:=z9 rd' hp' hT hA ps [] rfl
 have a1':Lp AP.A [0,3,9,10,11] AP.f62L1 [(0,x),(3,I 0),(9,x),(10,I ps.length),(11,I 0)] h.dG=some (.exit 0,e1,h.dG):=a1
 clear a1
 have gc:=M9 h.dG (cat ps).length h0 hT
 obtain⟨h1,hh1⟩:∃g,g=h.dG.alloc (List.replicate (cat ps).length (I 0)):=⟨_,rfl⟩
 rw[←hh1]at gc
 obtain⟨e2,h2,b1,b2,b3⟩:=Aa rd' hp' hT hA h.next (uw _) ps [] h1 rfl (by rw[hh1];simp) (by rw[hh1,H.aV,if_pos (show h.next=h.dG.next from rfl)];rfl)
  (fun i c q=>by rw[hh1,H.aV,if_neg (by have:=h.dG.lt _ _ q;omega)];exact q)
 have b1':Lp AP.A [6,25,26,27] AP.f62L0 [(6,.aD h.next 0 0 1),(25,x),(26,I ps.length),(27,I 0)] h1=some (.exit 2,e2,h2):=b1
 clear b1
 have hn:h.dG.next=h.next:=rfl
 refine tC (fn:=AP.f62) (h2:=h2) (e:=[(2,.aD h.next 0 (cat ps).length 1)]) (vs:=[.aD h.next 0 (cat ps).length 1]) rfl rfl rfl ?_ rfl ?_
 · simp only[I]at *
   simp only[AP.f62,go_sem,ln,rI,a1',a2,a3,gc,hn,b1',b2]
 · show snap h2.get h.next 16 true (.aD h.next 0 (cat ps).length 1)=_
   unfold snap
   rw[if_neg (by omega),b3,uq,if_pos (by simp)]
   have ht:((ints (cat ps)).drop 0).take ((cat ps).length* 1)=ints (cat ps):=by
    rw[Q2,Nat.mul_one,uN (by simp)]
   rw[ht,wX];rfl
def vb:List Int:=List.replicate 144 8++(List.replicate 112 9++(List.replicate 24 7++List.replicate 8 8))
theorem NN (e:Env) (n:Int):aX e (.cw 1 1 [.int .i64 0] [(0,.c (.int .i64 n))])=some ([I n],fun i=>.aD i 0 1 1):=rfl
theorem zg (h:H) (n:Int):Rd (h.alloc [I n]) (.aD h.next 0 1 1) [I n]:=by
 refine⟨?_,by intro s e;cases e⟩
 simp [aR,H.aV]
theorem GY (h:H):aQ AP.A 42 [] h=some (vN vb,h):=by
 have r1:=xF (h.dG.alloc [I 8]) (.aD h.dG.next 0 1 1) 8 144 (by omega) (zg _ _)
 have r2:=xF ((h.dG.alloc [I 8]).alloc [I 9]) (.aD (h.dG.alloc [I 8]).next 0 1 1) 9 112 (by omega) (zg _ _)
 have r3:=xF (((h.dG.alloc [I 8]).alloc [I 9]).alloc [I 7]) (.aD ((h.dG.alloc [I 8]).alloc [I 9]).next 0 1 1) 7 24 (by omega) (zg _ _)
 have r4:=xF ((((h.dG.alloc [I 8]).alloc [I 9]).alloc [I 7]).alloc [I 8]) (.aD (((h.dG.alloc [I 8]).alloc [I 9]).alloc [I 7]).next 0 1 1) 8 8 (by omega) (zg _ _)
 obtain⟨g4,hg4⟩:∃g,g=(((h.dG.alloc [I 8]).alloc [I 9]).alloc [I 7]).alloc [I 8]:=⟨_,rfl⟩
 obtain⟨v1,hv1⟩:∃v,v=AV.aU false (ints (List.replicate 144 8)) 0 144 1:=⟨_,rfl⟩
 obtain⟨v2,hv2⟩:∃v,v=AV.aU false (ints (List.replicate 112 9)) 0 112 1:=⟨_,rfl⟩
 obtain⟨v3,hv3⟩:∃v,v=AV.aU false (ints (List.replicate 24 7)) 0 24 1:=⟨_,rfl⟩
 obtain⟨v4,hv4⟩:∃v,v=AV.aU false (ints (List.replicate 8 8)) 0 8 1:=⟨_,rfl⟩
 have hc:cat [(v1,List.replicate 144 8),(v2,List.replicate 112 9),(v3,List.replicate 24 7),(v4,List.replicate 8 8)]=vb:=by
  simp only[cat,vb,QO,List.flatMap_nil,Q0]
 have hfl:vb.length=288:=by simp only[vb,uS,QX]
 have cc:=BU (g4.alloc [v1,v2,v3,v4]) (.aD g4.next 0 4 1) [(v1,List.replicate 144 8),(v2,List.replicate 112 9),(v3,List.replicate 24 7),(v4,List.replicate 8 8)]
  ⟨by simp [aR,H.aV],by intro s e;cases e⟩
  (by
    intro p hp
    simp only[uP,List.not_mem_nil,or_false]at hp
    rcases hp with rfl|rfl|rfl|rfl
    · rw[hv1];exact xh _ _
    · rw[hv2];exact xh _ _
    · rw[hv3];exact xh _ _
    · rw[hv4];exact xh _ _) (by rw[hc,hfl];omega) (by simp) (by rw[hc,hfl];omega)
 rw[hc]at cc
 have bt:∀e:Env,look e 2=v1→look e 4=v2→look e 6=v3→look e 8=v4→aX e (.cw 1 4 [.aO] [(0,.t 2),(1,.t 4),(2,.t 6),(3,.t 8)])=some ([v1,v2,v3,v4],fun i=>.aD i 0 4 1):=by
  intro e q1 q2 q3 q4
  simp only[aX,QQ,Rl,rK,q1,q2,q3,q4]
  rw[hv1,hv2,hv3,hv4];rfl
 refine tC (fn:=AP.f42) (h2:=g4.alloc [v1,v2,v3,v4]) (e:=[(0,vN vb)]) rfl rfl rfl ?_ rfl ?_
 · rw[←hv1]at r1;rw[←hv2]at r2;rw[←hv3]at r3;rw[←hv4]at r4
   rw[←hg4]at r4
   have r1':aQ AP.A 43 [.aD h.dG.next 0 1 1,I 144] (h.dG.alloc [I 8])=some (v1,h.dG.alloc [I 8]):=r1
   have r2':aQ AP.A 43 [.aD (h.dG.alloc [I 8]).next 0 1 1,I 112] ((h.dG.alloc [I 8]).alloc [I 9])=some (v2,(h.dG.alloc [I 8]).alloc [I 9]):=r2
   have r3':aQ AP.A 43 [.aD ((h.dG.alloc [I 8]).alloc [I 9]).next 0 1 1,I 24] (((h.dG.alloc [I 8]).alloc [I 9]).alloc [I 7])=some (v3,((h.dG.alloc [I 8]).alloc [I 9]).alloc [I 7]):=r3
   have r4':aQ AP.A 43 [.aD (((h.dG.alloc [I 8]).alloc [I 9]).alloc [I 7]).next 0 1 1,I 8] g4=some (v4,g4):=r4
   clear r1 r2 r3 r4 hv1 hv2 hv3 hv4 hc
   simp only[I]at *
   simp only[AP.f42,go_sem,NN,I,r1',r2',r3',←hg4,r4']
   rw[bt _ rfl rfl rfl rfl]
   simp only[lS,rX,go_sem,cc]
 · simp only[cZ];unfold snap vN;rfl
def vi:List Int:=[16,17,18,0,8,7,9,6,10,5,11,4,12,3,13,2,14,1,15]
theorem G8 (h:H):aQ AP.A 79 [] h=some (vN vi,h):=by
 have b:aX [] (.cw 1 19 [.int .i64 0] [(0,(.c (.int .i64 16))),(1,(.c (.int .i64 17))),(2,(.c (.int .i64 18))),(3,(.c (.int .i64 0))),(4,(.c (.int .i64 8))),(5,(.c (.int .i64 7))),(6,(.c (.int .i64 9))),(7,(.c (.int .i64 6))),(8,(.c (.int .i64 10))),(9,(.c (.int .i64 5))),(10,(.c (.int .i64 11))),(11,(.c (.int .i64 4))),(12,(.c (.int .i64 12))),(13,(.c (.int .i64 3))),(14,(.c (.int .i64 13))),(15,(.c (.int .i64 2))),(16,(.c (.int .i64 14))),(17,(.c (.int .i64 1))),(18,(.c (.int .i64 15)))])=some (ints vi,fun i=>.aD i 0 19 1):=rfl
 refine tC (fn:=AP.f79) (h2:=h.dG.alloc (ints vi)) (e:=[(0,.aD h.next 0 19 1)]) (vs:=[.aD h.next 0 19 1]) rfl rfl rfl ?_ rfl ?_
 · have hn:h.dG.next=h.next:=rfl
   simp only[AP.f79,go_sem,b,hn]
 · show snap (h.dG.alloc (ints vi)).get h.next 16 true (.aD h.next 0 19 1)=_
   unfold snap
   rw[if_neg (by omega),H.aV,if_pos (show h.next=h.dG.next from rfl),uq,if_pos (by decide)]
   rw[show((ints vi).drop 0).take (19* 1)=ints vi from rfl,wX];rfl
def IQ (c:ae) (d:Option Nat) (r:List aj) (e:Env) (p:Option (AV×H)):Option (Env×H×List H):=p.bind fun q=>aM c r (aL d q.1 e) q.2
theorem D6 (c:ae) (d:Option Nat) (r:List aj) (e:Env) (v:AV) (h:H):IQ c d r e (some (v,h))=aM c r (aL d v e) h:=uj rfl rfl
def H3 (aN:Bool) (h:H) (p:Option (Env×H×List H)):Option (Env×H×List H):=p.bind fun q=>some (q.1,q.2.1,if aN then h::q.2.2 else q.2.2)
theorem Eo (h:H) (e:Env) (h':H) (gs:List H):H3 true h (some (e,h',gs))=some (e,h',h::gs):=uj rfl rfl
theorem En (h:H) (e:Env) (h':H) (gs:List H):H3 false h (some (e,h',gs))=some (e,h',gs):=uj rfl rfl
theorem Au (c:ae) (e:Env) (h:H):aM c [] e h=some (e,h,[h]):=uj rfl rfl
theorem DF (c:ae) (o:aj) (r:List aj) (e:Env) (h:H):aM c (o::r) e h=H3 o.op.aN h (IQ c o.dst r e (ai c o e h)):=by
 rw[aM]
 unfold H3 IQ
 cases hv:ai c o e h with
 |none=>rfl
 | some q =>
   obtain⟨v,h'⟩:=q
   simp only[uq]
theorem Eh (c:ae) (d:Option Nat) (op:bR) (r:List aj) (e:Env) (h:H):aM c (⟨d,op,none⟩::r) e h=H3 op.aN h (IQ c d r e (ah c e h op)):=DF _ _ _ _ _
theorem I8 (c:ae) (d:Option Nat) (op:bR) (g:Nat) (w:Bool) (r:List aj) (e:Env) (h:H):aM c (⟨d,op,some (g,w)⟩::r) e h=H3 op.aN h (IQ c d r e (kF w c e h op (look e g))):=DF _ _ _ _ _
theorem Ii {c:ae} {l:bE} {e e':Env} {h h':H} {gs:List H} (ord:List Nat) (ops:List aj) (fl:List (Nat×List Nat)) (vG:List Nat) (h1:aM c ops e h=some (e',h',gs)) (h2:aY c ops e' gs fl=true):aK c l (.iu ord ops fl vG) e h=some (.normal,ax e' vG,h'):=by
 rw[aK,h1,uq]
 dsimp only
 rw[if_pos h2]
theorem AZ {c:ae} {ops:List aj} {e:Env} {gs:List H} {i:Nat} {ks:List Nat} {r:List (Nat×List Nat)} (h1:∀k∈ks,bC c ops e gs i k=true) (h2:aY c ops e gs r=true):aY c ops e gs ((i,ks)::r)=true:=by
 simp only[aY,ux,List.all_eq_true]
 exact⟨h1,h2⟩
theorem AY {c:ae} {ops:List aj} {e:Env} {gs:List H} {i k:Nat} {o:aj} {g h':H} {d:Nat} {u:AV} (ho:ops[i]?=some o) (hg:gs[k]?=some g) (hb:o.op.aH=false) (hd:o.dst=some d) (hv:ai c o e g=some (u,h')) (hu:AV.beq u (look e d)=true):bC c ops e gs i k=true:=by
 unfold bC
 rw[ho,hg]
 dsimp only
 rw[hb]
 simp only[uu,uT,hd,QM,hv]
 exact hu
theorem DY (k:IntKind) (n:Int):AV.beq (.int k n) (.int k n)=true:=by simp [AV.beq]
theorem BI (i o l z:Nat):AV.beq (.aD i o l z) (.aD i o l z)=true:=by simp [AV.beq]
theorem EH (i o:Nat):AV.beq (.aC i o) (.aC i o)=true:=by simp [AV.beq]
theorem Bx (s:ByteArray):AV.beq (.str s) (.str s)=true:=by
 have:(s==s)=true:=by
  obtain⟨d⟩:=s
  show(d==d)=true
  exact beq_self_eq_true d
 simp [AV.beq,this]
theorem mX.apps {h:H} {v:AV} {cs:List AV} (o:mX h v cs) (hfn:h.floor≤h.next) {z:Nat} (bs:List AV) (hc:AV.aB bs=true) (hb:0<bs.length) (hr:roomy z (cs.length+bs.length)=true):
 ∃v' h',dC h 1 z v bs.length bs=some (v',h')∧mX h' v' (cs++bs)∧h'.floor=h.floor∧h.next≤h'.next∧(∀i,v.id?≠some i→i≠h.next→h'.get i=h.get i)∧v'.id?=some h.next:=by
 have hne:bs≠[]:=by intro e;rw[e]at hb;simp at hb
 rcases o with ⟨rfl,rfl⟩|⟨id,rfl,hg,hf,hne'⟩
 · refine⟨.aD h.next 0 bs.length 1,h.alloc bs, ?_,.inr ⟨h.next,by simp,by simp [H.aV], ?_,by simpa using hne⟩,by simp,by simp,fun i _ hi=>by rw[H.aV,if_neg hi],rfl⟩
   · unfold dC
     rw[if_neg (by omega),if_neg (by simp [hc])]
     simp only[QK,uD]at hr
     simp only[hr,if_true]
   · simp;omega
 · refine⟨.aD h.next 0 (cs.length+bs.length) 1,(h.del id).alloc (cs++bs), ?_,.inr ⟨h.next,by simp,by simp [H.aV], ?_,by simp [hne]⟩,by simp,by simp,fun i h1 h2=> ?_,rfl⟩
   · unfold dC
     rw[if_neg (by omega),if_neg (by simp [hc])]
     simp only[hf,and_self,if_true,hg,uq]
     rw[if_neg (by omega),if_pos ⟨by omega,hr⟩]
     simp
   · have:=h.lt id cs hg;simp;omega
   · rw[H.aV,H.jd,if_neg h2,H.dJ,if_neg]
     intro e;subst e;exact h1 rfl
theorem St.vG {c:SC} {S:SS} {h h':H} {ov:AV} (st:St c S h ov) (hf:h'.floor=h.floor) (hn:h.next≤h'.next) (hg:∀i,i=c.s∨i=c.r∨ov.id?=some i→h'.get i=h.get i):St c S h' ov:=by
 refine⟨by rw[hg _ (.inl rfl)];exact st.gs,by rw[hg _ (.inr (.inl rfl))];exact st.gr,st.own.mono hf fun i hi=>hg i (.inr (.inr hi)),st.sr,by rw[hf];exact st.fs,by rw[hf];exact st.fr,st.os,st.or,by rw[hf];exact uQ st.nx hn,st.sz,st.xW,st.ol,st.ml⟩
theorem St.lt {c:SC} {S:SS} {h:H} {ov:AV} (st:St c S h ov) {i:Nat} (hi:i=c.s∨i=c.r∨ov.id?=some i):i<h.next:=by
 rcases hi with rfl|rfl|hi
 · exact h.lt _ _ st.gs
 · exact h.lt _ _ st.gr
 · exact st.own.lt hi
theorem St.alloc {c:SC} {S:SS} {h:H} {ov:AV} (st:St c S h ov) (cs:List AV):St c S (h.alloc cs) ov∧Fr c h ov (h.alloc cs) ov:=by
 refine⟨st.vG (by simp) (by simp) fun i hi=> ?_,⟨by simp,by simp,fun id h1 _ _ _=> ?_,fun _ q=>.inl q⟩⟩
 · have:=st.lt hi;rw[H.aV,if_neg (by omega)]
 · rw[H.aV,if_neg (by omega)]
def vR (c:SC) (y:Int) (acc:List Int) (S:SS):(Int×Nat)×SS:=
 if y=16 then(if acc=[]then((0,0),vw 700 S)else((acc.getD (acc.length-1) 0,3+(u0 c 2 S).1),(u0 c 2 S).2))
 else if y=17 then((0,3+(u0 c 3 S).1),(u0 c 3 S).2)
 else if y=18 then((0,11+(u0 c 7 S).1),(u0 c 7 S).2)
 else((y,1),S)
theorem zc (c:SC) (S:SS) (n:Nat) (hn:n≤16):(u0 c n S).1<65536:=by
 unfold u0;split
 · have:=wB c.text S.at_ n
   have:=QZ (show 0<2 by omega) hn
   simp at *;omega
 · simp
theorem Dl {l:List Int} {i:Nat} (h:i<l.length):(ints l)[i]?=some (I (l.getD i 0)):=sg (by simp [List.getD,h])
theorem JQ {c : SC} {S : SS} {h : H} {ov : AV} (st : St c S h ov) (y : Int) {av : AV} {acc : List Int} (oa : mX h av (ints acc)) (ha : acc.length < 100000) (hne : ∀ i, av.id? = some i → i ≠ c.s ∧ i ≠ c.r ∧ ov.id? ≠ some i) :
 ∃h',aQ AP.A 80 [.aC c.s 0,I y,av] h=some (.bJ [I (vR c y acc S).1.1,I (vR c y acc S).1.2],h')∧St c (vR c y acc S).2 h' ov∧Fr c h ov h' ov:=by
 have ln:=oa.len
 rw[pg]at ln
 by_cases h16:y=16
 · have d16:=tJ h16
   by_cases hnil:acc=[]
   · obtain⟨h',k1,k2,k3⟩:=wJ st 700
     have e:vR c y acc S=((0,0),vw 700 S):=by rw[vR,if_pos h16,if_pos hnil]
     rw[e]
     refine⟨h', ?_,k2,k3⟩
     have hz:((acc.length:Int)==0)=true:=by rw[hnil];rfl
     refine sZ (fn:=AP.f80) (e:=[(6,I 0),(7,I 0)]) rfl rfl rfl ?_ rfl
     simp only[I]at *
     simp only[AP.f80,go_sem,d16,ln,hz,k1]
   · obtain⟨h',k1,k2,k3⟩:=ya st 2 2 rfl (by omega)
     have e:vR c y acc S=((acc.getD (acc.length-1) 0,3+(u0 c 2 S).1),(u0 c 2 S).2):=by rw[vR,if_pos h16,if_neg hnil]
     rw[e]
     have hpos:0<acc.length:=List.length_pos_iff.2 hnil
     have hz:((acc.length:Int)==0)=false:=tI (by omega)
     have hg:=zc c S 2 (by omega)
     have w1:IntKind.wrap .i64 (3+((u0 c 2 S).1:Int))=((3+(u0 c 2 S).1:Nat):Int):=by
      rw[show(3:Int)+((u0 c 2 S).1:Int)=((3+(u0 c 2 S).1:Nat):Int)by omega];exact uY (by omega)
     have w2:IntKind.wrap .i64 ((acc.length:Int)-1)=((acc.length-1:Nat):Int):=by
      rw[show(acc.length:Int)-1=((acc.length-1:Nat):Int)by omega];exact uY (by omega)
     have hel:=Dl (l:=acc) (i:=acc.length-1) (by omega)
     obtain⟨id,i1,i2,i3⟩:=oa.elem hel
     have hid:=hne id (by rw[i1];rfl)
     have i4:h'.get id=some (ints acc):=by rw[k3.F6 id (h.lt _ _ i3) hid.1 hid.2.1 hid.2.2];exact i3
     refine⟨h', ?_,k2,k3⟩
     refine sZ (fn:=AP.f80) (e:=[(6,I (acc.getD (acc.length-1) 0)),(7,I (3+(u0 c 2 S).1:Nat))]) rfl rfl rfl ?_ rfl
     generalize (u0 c 2 S).1=G at *
     clear i1
     simp only[I]at *
     simp only[AP.f80,go_sem,d16,ln,hz]
     rw[Ii (e':=[(7,.int .i64 ((3+G:Nat):Int)),(6,.int .i64 (acc.getD (acc.length-1) 0)),(24,.int .i64 ((3+G:Nat):Int)),(23,.int .i64 G),(22,.aC c.s 0),(21,.int .i64 (acc.getD (acc.length-1) 0)),(20,.aC id (acc.length-1)),(19,.int .i64 (acc.length-1:Nat)),(18,.int .i64 acc.length),(17,av),(16,av),(0,.aC c.s 0),(2,av)]) (h':=h') (gs:=[h,h'])]
     · simp only[go_sem]
     · simp only[Au,Eh,D6,Eo,En,bR.aN,go_sem,ln,w2,i2,i3,hel,k1,w1]
     · refine AZ (fun k hk=> ?_) rfl
       obtain rfl:k=1:=by simpa using hk
       refine AY (o:=⟨some 21,.load false 1 (.t 20),none⟩) (g:=h') (h':=h') (d:=21) (u:=.int .i64 (acc.getD (acc.length-1) 0)) rfl rfl rfl rfl ?_ ?_
       · simp only[ai,go_sem,i4,hel]
       · simp only[go_sem,DY]
 · have d16:=tI h16
   by_cases h17:y=17
   · have d17:=tJ h17
     obtain⟨h',k1,k2,k3⟩:=ya st 3 3 rfl (by omega)
     have e:vR c y acc S=((0,3+(u0 c 3 S).1),(u0 c 3 S).2):=by rw[vR,if_neg h16,if_pos h17]
     rw[e]
     have hg:=zc c S 3 (by omega)
     have w1:IntKind.wrap .i64 (3+((u0 c 3 S).1:Int))=((3+(u0 c 3 S).1:Nat):Int):=by
      rw[show(3:Int)+((u0 c 3 S).1:Int)=((3+(u0 c 3 S).1:Nat):Int)by omega];exact uY (by omega)
     refine⟨h', ?_,k2,k3⟩
     refine sZ (fn:=AP.f80) (e:=[(6,I 0),(7,I (3+(u0 c 3 S).1:Nat))]) rfl rfl rfl ?_ rfl
     simp only[I]at *
     simp only[AP.f80,go_sem,d16,d17,k1,w1]
   · have d17:=tI h17
     by_cases h18:y=18
     · have d18:=tJ h18
       obtain⟨h',k1,k2,k3⟩:=ya st 7 7 rfl (by omega)
       have e:vR c y acc S=((0,11+(u0 c 7 S).1),(u0 c 7 S).2):=by rw[vR,if_neg h16,if_neg h17,if_pos h18]
       rw[e]
       have hg:=zc c S 7 (by omega)
       have w1:IntKind.wrap .i64 (11+((u0 c 7 S).1:Int))=((11+(u0 c 7 S).1:Nat):Int):=by
        rw[show(11:Int)+((u0 c 7 S).1:Int)=((11+(u0 c 7 S).1:Nat):Int)by omega];exact uY (by omega)
       refine⟨h', ?_,k2,k3⟩
       refine sZ (fn:=AP.f80) (e:=[(6,I 0),(7,I (11+(u0 c 7 S).1:Nat))]) rfl rfl rfl ?_ rfl
       simp only[I]at *
       simp only[AP.f80,go_sem,d16,d17,d18,k1,w1]
     · have d18:=tI h18
       have e:vR c y acc S=((y,1),S):=by rw[vR,if_neg h16,if_neg h17,if_neg h18]
       rw[e]
       refine⟨h, ?_,st,Fr.refl _ _ _⟩
       refine sZ (fn:=AP.f80) (e:=[(6,I y),(7,I 1)]) rfl rfl rfl ?_ rfl
       simp only[I]at *
       simp only[AP.f80,go_sem,d16,d17,d18]
def Ej (t:ByteArray):List Int→Nat→List Int→List Int
 |[],_,o=>o
 |s::r,p,o=>Ej t r (p+3) (o.set s.toNat (u2 t p 3))
def yn (t:ByteArray) (y:Int) (acc:List Int) (p:Nat):Option (Int×Nat×Nat):=
 if y=16 then(if acc=[]then none else if p+2≤8* t.size then some (acc.getD (acc.length-1) 0,3+u2 t p 2,p+2)else none)
 else if y=17 then(if p+3≤8* t.size then some (0,3+u2 t p 3,p+3)else none)
 else if y=18 then(if p+7≤8* t.size then some (0,11+u2 t p 7,p+7)else none)
 else some (y,1,p)
def vU (t : ByteArray) (cl : List Int) (many : Nat) : Nat → List Int → Nat → Option (List Int × Nat)
 |0,_,_=>none
 | f + 1, acc, p => if acc.length < many then
     match yi t cl 15 1 0 p with
     |none=>none
     | some (y, p1) => match yn t y acc p1 with
       |none=>none
       |some (n,times,p2)=>vU t cl many f (acc++List.replicate times n) p2
   else if many<acc.length then none else some (acc,p)
def xM (t : ByteArray) (many : Nat) (p : Nat) : Option (List Int × Nat) :=
 if p+4≤8* t.size then
  let k:=u2 t p 4+4
  if p+4+3* k≤8* t.size then
   let cl:=Ej t (vi.take k) (p+4) (List.replicate 19 0)
   if vk cl=0 then vU t cl many (8* t.size+1) [] (p+4+3* k)else none
  else none
 else none
theorem Gc {h:H} {t:Bool} {N k:Nat} {cs:List AV} (hN:cs.length=N) (hk:k≤N):rD h 1 (.aU t cs 0 N 1) none (some (I k)) none=some (.aU t cs 0 k 1):=by
 simp [rD,hN,aA,Jn hk]
theorem Dz:∀s∈vi,0≤s∧s<19:=by decide
def yV (c:SC):List Int→List Int→SS→List Int×SS
 |[],o,S=>(o,S)
 |s::r,o,S=>yV c r (o.set s.toNat ((u0 c 3 S).1:Nat)) (u0 c 3 S).2
theorem FA (c:SC):∀(r o:List Int) (S:SS),(yV c r o S).1.length=o.length
 |[],o,S=>rfl
 |s::r,o,S=>by rw[yV,FA c r];simp
theorem G9 (c : SC) : ∀ (r o : List Int) (S : SS), (∀ y ∈ o, 0 ≤ y ∧ y < 16) → ∀ y ∈ (yV c r o S).1, 0 ≤ y ∧ y < 16
 |[],o,S,h=>h
 | s :: r, o, S, h => by
   rw[yV]
   refine G9 c r _ _ fun y hy=> ?_
   rcases Rc hy with q|q
   · exact h y q
   · subst q
     have:(u0 c 3 S).1<8:=by
      unfold u0;split
      · simpa using wB c.text S.at_ 3
      · simp
     omega
theorem Ha (c:SC):∀(r o:List Int) (S:SS),S.e=0→S.at_+3* r.length≤8* c.text.size→yV c r o S=(Ej c.text r S.at_ o,{S with at_:=S.at_+3* r.length})
 |[],o,S,he,h=>rfl
 | s :: r, o, S, he, h => by
   rw[QI]at h
   have eg:u0 c 3 S=(u2 c.text S.at_ 3,{S with at_:=S.at_+3}):=by rw[u0,if_pos (by omega)]
   rw[yV,eg]
   dsimp only
   rw[Ha c r _ {S with at_:=S.at_+3} he (by dsimp only;omega)]
   simp only[Ej,QI]
   rw[show S.at_+3+3* r.length=S.at_+3* (r.length+1)by omega]
theorem IK (c:SC) (n:Nat) (S:SS) (h:S.e=0∨S.e=700):(u0 c n S).2.e=0∨(u0 c n S).2.e=700:=by
 unfold u0;split
 · exact h
 · rcases h with h|h<;>simp [vw,h]
theorem J9 (c:SC) (n:Nat) (S:SS) (h:S.e=700):(u0 c n S).2.e=700:=by
 unfold u0;split
 · exact h
 · simp [vw,h]
theorem Ek (c:SC):∀(r o:List Int) (S:SS),S.e=700→(yV c r o S).2.e=700
 |[],o,S,h=>h
 |s::r,o,S,h=>by rw[yV];exact Ek c r _ _ (J9 c 3 S h)
theorem Fz (c:SC):∀(r o:List Int) (S:SS),S.e=0→S.at_≤8* c.text.size→8* c.text.size<S.at_+3* r.length→(yV c r o S).2.e=700
 |[],o,S,he,hle,h=>by simp at h;omega
 | s :: r, o, S, he, hle, h => by
   rw[yV]
   rw[QI]at h
   by_cases hp:S.at_+3≤8* c.text.size
   · have eg:u0 c 3 S=(u2 c.text S.at_ 3,{S with at_:=S.at_+3}):=by rw[u0,if_pos hp]
     rw[eg]
     exact Fz c r _ _ he hp (by dsimp only;omega)
   · have eg:u0 c 3 S=(0,{S with e:=700}):=by rw[u0,if_neg hp,vw,if_pos he]
     rw[eg]
     exact Ek c r _ _ rfl
theorem FB {c:SC} (a:Nat) (x:AV) (xs:List Int) (hxs:∀s∈xs,0≤s∧s<19) (hxl:xs.length≤19) (hac:a≠c.s∧a≠c.r) (m:AV):∀(q p o:List Int) (S:SS) (h:H) (ov:AV),xs=p++q→Rd h x (ints xs)→(∀i,x.id?≠some i)→St c S h ov→ov.id?≠some a→h.get a=some (ints o)→o.length=19→h.floor≤a→
 ∃ e' h', Lp AP.A [0, 1, 5, 18, 19, 20] AP.f64L1 [(0, .aC c.s 0), (1, m), (5, .aC a 0), (18, x), (19, I xs.length), (20, I p.length)] h = some (.exit 0, e', h') ∧ look e' 0 = .aC c.s 0 ∧ look e' 1 = m ∧ look e' 5 = .aC a 0 ∧
   St c (yV c q o S).2 h' ov∧h'.get a=some (ints (yV c q o S).1)∧h'.floor=h.floor∧h.next≤h'.next∧∀i,i<h.next→i≠c.s→i≠c.r→ov.id?≠some i→i≠a→h'.get i=h.get i
 | [], p, o, S, h, ov, hp, rd, hx, st, hoa, hg, ho, hf => by
   rw[Q0]at hp;subst hp
   refine⟨[(0,.aC c.s 0),(1,m),(5,.aC a 0),(18,x),(19,I xs.length),(20,I xs.length),(21,.bool false)],h,sK ?_,rfl,rfl,rfl,st,hg,rfl,uw _,fun _ _ _ _ _ _=>rfl⟩
   have c1:¬(xs.length:Int)<(xs.length:Int):=by omega
   simp only[I]at *
   simp only[AP.f64L1,go_sem,QL c1]
 | s :: q, p, o, S, h, ov, hp, rd, hx, st, hoa, hg, ho, hf => by
   have hlen:xs.length=p.length+(q.length+1):=by rw[hp];simp
   have c1:(p.length:Int)<(xs.length:Int):=by omega
   have hs:=hxs s (by rw[hp];simp)
   obtain⟨sn,hsn⟩:∃n:Nat,s=n:=QP hs.1
   subst hsn
   have hv:(ints xs)[p.length]?=some (I sn):=sg (by rw[hp];simp)
   obtain⟨ad,p1,p2⟩:=rd.elem hv
   have p3:=p2 h (fun _ _ q=>q)
   obtain⟨h1,k1,k2,k3⟩:=ya st 3 3 rfl (by omega)
   have hal:a<h.next:=h.lt _ _ hg
   have hg1:h1.get a=some (ints o):=by rw[k3.F6 a hal hac.1 hac.2 hoa];exact hg
   have a1:cG (I sn) 19=some sn:=jW (by omega)
   have hset:(ints o).set sn (I ((u0 c 3 S).1:Nat))=ints (o.set sn ((u0 c 3 S).1:Nat)):=by simp [ints,List.map_set]
   have hst:tE h1 a sn 1 [I ((u0 c 3 S).1:Nat)] (some (ints o))=some (h1.set a (ints (o.set sn ((u0 c 3 S).1:Nat)))):=by
    rw[tV (by rw[k3.fl];exact hf) (by rw[pg];omega) rfl,hset]
   have w2:IntKind.wrap .i64 ((p.length:Int)+1)=(((p++[(sn:Int)]).length:Nat):Int):=by
    rw[uS];exact uY (n:=p.length+1) (by omega)
   have step:aK (aQ AP.A) bo AP.f64L1 (ax [(0,.aC c.s 0),(1,m),(5,.aC a 0),(18,x),(19,I xs.length),(20,I p.length)] [0,1,5,18,19,20]) h=some (.normal,[(0,.aC c.s 0),(1,m),(5,.aC a 0),(18,x),(19,I xs.length),(20,I (p++[(sn:Int)]).length)],h1.set a (ints (o.set sn ((u0 c 3 S).1:Nat)))):=by
    generalize ints (o.set sn ((u0 c 3 S).1:Nat))=W at *
    generalize (p++[(sn:Int)]).length=B at *
    generalize (u0 c 3 S).1=G at *
    generalize ints o=OO at *
    simp only[I]at *
    simp only[AP.f64L1,go_sem,QN c1,p1,p3,k1,a1,hg1,hst,w2]
   have st2:St c (u0 c 3 S).2 (h1.set a (ints (o.set sn ((u0 c 3 S).1:Nat)))) ov:=k2.vG (by simp) (by simp) fun i hi=>by
    rw[H.dd,if_neg]
    rintro rfl
    rcases hi with hi|hi|hi
    · exact hac.1 hi
    · exact hac.2 hi
    · exact hoa hi
   have rd2:Rd (h1.set a (ints (o.set sn ((u0 c 3 S).1:Nat)))) x (ints xs):=by
    refine⟨?_,rd.2⟩
    have:=rd.1
    unfold aR at this ⊢
    split at this
    · exact this
    · exact this
    · exact absurd rfl (hx _)
    · exact this
    · cases this
   obtain⟨e',h',q1,q2,q3,q4,q5,q6,q7,q8,q9⟩:=FB a x xs hxs hxl hac m q (p++[(sn:Int)]) (o.set sn ((u0 c 3 S).1:Nat)) _ _ ov (by rw[hp];simp) rd2 hx st2 hoa (by rw[H.dd,if_pos rfl,hg1];rfl) (by simpa using ho) (by simp [k3.fl];exact hf)
   refine⟨e',h',sL step q1,q2,q3,q4, ?_, ?_,by rw[q7];simp [k3.fl],by have:=k3.nx;simp at q8;omega,fun i i1 i2 i3 i4 i5=> ?_⟩
   · rw[yV];exact q5
   · rw[yV];exact q6
   · rw[q9 i (by have:=k3.nx;simp;omega) i2 i3 i4 i5,H.dd,if_neg i5,k3.F6 i i1 i2 i3 i4]
theorem xu {c:SC} {S:SS} {h:H} {ov:AV} (st:St c S h ov) (b:AV) (many:Nat) {av:AV} {acc:List Int} (oa:mX h av (ints acc)) (hs:many≤acc.length∨(acc.length<many∧S.e≠0)):
 ∃e',Lp AP.A [0,1,9,10] AP.f64L0 [(0,.aC c.s 0),(1,I many),(9,b),(10,av)] h=some (.exit 2,e',h)∧look e' 0=.aC c.s 0∧look e' 1=I many∧look e' 10=av:=by
 have gs:=st.gs
 have ln:=oa.len
 rw[pg]at ln
 refine⟨[(0,.aC c.s 0),(1,I many),(9,b),(10,av),(46,.bool false)],sK ?_,rfl,rfl,rfl⟩
 rcases hs with hs|⟨hs,he⟩
 · have c1:¬(acc.length:Int)<many:=by omega
   simp only[I]at *
   simp only[AP.f64L0,go_sem,ln,QL c1]
 · have c1:(acc.length:Int)<many:=by omega
   have c2:=tI he
   simp only[I]at *
   simp only[AP.f64L0,go_sem,ln,QN c1,gs,c2]
theorem Hu {c : SC} {S : SS} {y : Int} {acc : List Int} (he : S.e = 0) :
 match yn c.text y acc S.at_ with
 |some (n,times,p)=>vR c y acc S=((n,times),{S with at_:=p})∧S.at_≤p
 |none=>(vR c y acc S).2.e=700:=by
 unfold yn vR
 by_cases h16:y=16
 · rw[if_pos h16,if_pos h16]
   by_cases hn:acc=[]
   · rw[if_pos hn,if_pos hn];simp [vw,he]
   · rw[if_neg hn,if_neg hn]
     by_cases hp:S.at_+2≤8* c.text.size
     · simp [u0,hp]
     · simp [u0,hp,vw,he]
 · rw [if_neg h16, if_neg h16]
   by_cases h17:y=17
   · rw[if_pos h17,if_pos h17]
     by_cases hp:S.at_+3≤8* c.text.size
     · simp [u0,hp]
     · simp [u0,hp,vw,he]
   · rw[if_neg h17,if_neg h17]
     by_cases h18:y=18
     · rw[if_pos h18,if_pos h18]
       by_cases hp:S.at_+7≤8* c.text.size
       · simp [u0,hp]
       · simp [u0,hp,vw,he]
     · rw[if_neg h18,if_neg h18]
       exact⟨rfl,uw _⟩
theorem DT (c:SC) (y:Int) (acc:List Int) (S:SS):(vR c y acc S).1.2<70000:=by
 unfold vR
 have h2:=zc c S 2 (by omega)
 have h3:=zc c S 3 (by omega)
 have h7:=zc c S 7 (by omega)
 repeat' split
 all_goals (dsimp only;omega)
theorem Ds {c : SC} (h0 : H) (cl : List Int) (hcl : cl.length < 100000) (many : Nat) (hm : many ≤ 400) : ∀ (f : Nat) (acc : List Int) (S : SS) (h : H) (ov av : AV), St c S h ov → S.e = 0 → 8 * c.text.size < S.at_ + f → Fr c h0 ov h ov → mX h av (ints acc) → acc.length < 80000 → (∀ i, av.id? = some i → h0.next ≤ i) → (∀ i, (i = c.s ∨ i = c.r ∨ ov.id? = some i) → i < h0.next) →
 ∃ e' h' S' av' acc', Lp AP.A [0, 1, 9, 10] AP.f64L0 [(0, .aC c.s 0), (1, I many), (9, vp cl), (10, av)] h = some (.exit 2, e', h') ∧ look e' 0 = .aC c.s 0 ∧ look e' 1 = I many ∧ look e' 10 = av' ∧ St c S' h' ov ∧ Fr c h0 ov h' ov ∧ mX h' av' (ints acc') ∧ acc'.length < 200000 ∧ (∀ i, av'.id? = some i → h0.next ≤ i) ∧
   match vU c.text cl many f acc S.at_ with
   |some (L,p)=>S'={S with at_:=p}∧acc'=L∧L.length=many
   |none=>S'.e=700∨(S'.e=0∧many<acc'.length)
 |0,acc,S,h,ov,av,st,he,hk,fr,oa,hal,hid,hlo=>by have:=st.xW;omega
 | f + 1, acc, S, h, ov, av, st, he, hk, fr, oa, hal, hid, hlo => by
   by_cases hlt:acc.length<many
   · rw [vU, if_pos hlt]
     have gs:=st.gs
     have ln:=oa.len
     rw[pg]at ln
     have c1:(acc.length:Int)<many:=by omega
     obtain⟨h1,S1,y,s1,s2,s3,s4⟩:=CI cl hcl st he
     have hneq:∀i,av.id?=some i→i≠c.s∧i≠c.r∧ov.id?≠some i:=fun i hi=>by
      have:=hid i hi
      refine⟨fun e=> ?_,fun e=> ?_,fun e=> ?_⟩
      · have:=hlo i (.inl e);omega
      · have:=hlo i (.inr (.inl e));omega
      · have:=hlo i (.inr (.inr e));omega
     have oa1:mX h1 av (ints acc):=oa.mono s3.fl fun i hi=>s3.F6 i (oa.lt hi) (hneq i hi).1 (hneq i hi).2.1 (hneq i hi).2.2
     obtain⟨h2,r1,r2,r3⟩:=JQ s2 y oa1 (by omega) hneq
     have oa2:mX h2 av (ints acc):=oa1.mono r3.fl fun i hi=>r3.F6 i (oa1.lt hi) (hneq i hi).1 (hneq i hi).2.1 (hneq i hi).2.2
     obtain⟨n,hn⟩:∃n,n=(vR c y acc S1).1.1:=⟨_,rfl⟩
     obtain⟨times,htm⟩:∃n,n=(vR c y acc S1).1.2:=⟨_,rfl⟩
     obtain⟨S2,hS2⟩:∃n,n=(vR c y acc S1).2:=⟨_,rfl⟩
     have htb:=DT c y acc S1
     rw[←hn,←htm]at r1;rw[←hS2]at r2;rw[←htm]at htb
     have al:=r2.alloc [I n]
     have rp:=xF (h2.alloc [I n]) (.aD h2.next 0 1 1) n times (by omega) (zg _ _)
     have oa3:mX (h2.alloc [I n]) av (ints acc):=oa2.mono (by simp) fun i hi=>by
      have:=oa2.lt hi;rw[H.aV,if_neg (by omega)]
     have hfr3:=((fr.trans s3).trans r3).trans al.2
     have hap:∃v' h3,kd (h2.alloc [I n]) 1 8 av (.aU false (ints (List.replicate times n)) 0 times 1)=some (v',h3)∧mX h3 v' (ints (acc++List.replicate times n))∧St c S2 h3 ov∧Fr c h0 ov h3 ov∧∀i,v'.id?=some i→h0.next≤i:=by
      have src:aR (h2.alloc [I n]) 1 (.aU false (ints (List.replicate times n)) 0 times 1)=some (times,ints (List.replicate times n)):=by
       simp [aR,uN]
      by_cases ht0:times=0
      · subst ht0
        refine⟨av,h2.alloc [I n], ?_,by simpa using oa3,al.1,hfr3,hid⟩
        unfold kd
        rw[src,uq]
        unfold dC
        rw[if_pos rfl]
        rcases oa3 with ⟨rfl,_⟩|⟨id,rfl,_⟩<;>rfl
      · have hnx:=al.1.nx
        obtain⟨v',h3,q1,q2,q3,q4,q5,q6⟩:=oa3.apps hnx (z:=8) (ints (List.replicate times n)) (jt _) (by simp;omega) (by simp [roomy];omega)
        refine⟨v',h3, ?_,by rw[pf];exact q2,al.1.vG q3 q4 fun i hi=> ?_,⟨q3.trans hfr3.fl,uQ hfr3.nx q4,fun id i1 i2 i3 i4=> ?_,fun i hi=>.inl hi⟩,fun i hi=> ?_⟩
        · unfold kd
          rw[src,uq]
          have hl:(ints (List.replicate times n)).length=times:=by simp
          rw[hl]at q1;exact q1
        · have hlt0:=hlo i hi
          have hle:h0.next≤(h2.alloc [I n]).next:=hfr3.nx
          exact q5 i (fun e=>by have:=hid i e;omega) (by omega)
        · have hle:h0.next≤(h2.alloc [I n]).next:=hfr3.nx
          rw[q5 id (fun e=>by have:=hid id e;omega) (by omega)]
          exact hfr3.F6 id i1 i2 i3 i4
        · rw[q6]at hi;cases hi;exact hfr3.nx
     obtain⟨v',h3,ap1,ap2,ap3,ap4,ap5⟩:=hap
     have step:aK (aQ AP.A) bo AP.f64L0 (ax [(0,.aC c.s 0),(1,I many),(9,vp cl),(10,av)] [0,1,9,10]) h=some (.normal,[(0,.aC c.s 0),(1,I many),(9,vp cl),(10,v')],h3):=by
      have bs:∀(e:Env),look e 57=.int .i64 n→aX e (.cw 1 1 [.int .i64 0] [(0,.t 57)])=some ([.int .i64 n],fun i=>.aD i 0 1 1):=by
       intro e q
       simp only[aX,QQ,Rl,rK,q];rfl
      simp only[I]at *
      simp only[AP.f64L0,go_sem,ln,QN c1,gs,he,s1,r1]
      rw[bs _ rfl]
      simp only[go_sem,rp,ap1]
     have hacc':(acc++List.replicate times n).length<80000:=by simp;omega
     cases hz:yi c.text cl 15 1 0 S.at_ with
     | none =>
       rw[hz]at s4
       obtain⟨s4,s5⟩:=s4
       have hy:y=256:=s5
       have hag:vR c y acc S1=((y,1),S1):=by rw[vR,if_neg (by omega),if_neg (by omega),if_neg (by omega)]
       have hS2e:S2.e=700:=by rw[hS2,hag];exact s4
       dsimp only
       by_cases hlt2:(acc++List.replicate times n).length<many
       · obtain⟨e',q1,q2,q3,q4⟩:=xu ap3 (vp cl) many ap2 (.inr ⟨hlt2,by rw[hS2e];decide⟩)
         exact⟨e',h3,S2,v',_,sL step q1,q2,q3,q4,ap3,ap4,ap2,by omega,ap5,.inl hS2e⟩
       · obtain⟨e',q1,q2,q3,q4⟩:=xu ap3 (vp cl) many ap2 (.inl (by omega))
         exact⟨e',h3,S2,v',_,sL step q1,q2,q3,q4,ap3,ap4,ap2,by omega,ap5,.inl hS2e⟩
     | some yp =>
       obtain⟨z,p1⟩:=yp
       rw[hz]at s4
       obtain⟨s4,s5⟩:=s4
       subst s5 s4
       have zb:=xP hz
       have hok:=Hu (c:=c) (S:={S with at_:=p1}) (y:=y) (acc:=acc) he
       dsimp only at hok ⊢
       cases ha:yn c.text y acc p1 with
       | none =>
         rw[ha]at hok
         have hS2e:S2.e=700:=by rw[hS2];exact hok
         dsimp only
         by_cases hlt2:(acc++List.replicate times n).length<many
         · obtain⟨e',q1,q2,q3,q4⟩:=xu ap3 (vp cl) many ap2 (.inr ⟨hlt2,by rw[hS2e];decide⟩)
           exact⟨e',h3,S2,v',_,sL step q1,q2,q3,q4,ap3,ap4,ap2,by omega,ap5,.inl hS2e⟩
         · obtain⟨e',q1,q2,q3,q4⟩:=xu ap3 (vp cl) many ap2 (.inl (by omega))
           exact⟨e',h3,S2,v',_,sL step q1,q2,q3,q4,ap3,ap4,ap2,by omega,ap5,.inl hS2e⟩
       | some q =>
         obtain⟨n2,t2,p2⟩:=q
         rw[ha]at hok
         obtain⟨hok,hp12⟩:=hok
         rw[hok]at hn htm hS2
         dsimp only at hn htm hS2
         subst hn htm hS2
         obtain⟨e',h',S',av',acc',q1,q2,q3,q4,q5,q6,q7,q8,q9,q10⟩:=Ds h0 cl hcl many hm f (acc++List.replicate times n) _ h3 ov v' ap3 he (by dsimp only;omega) ap4 ap2 hacc' ap5 hlo
         exact⟨e',h',S',av',acc',sL step q1,q2,q3,q4,q5,q6,q7,q8,q9,q10⟩
   · obtain⟨e',q1,q2,q3,q4⟩:=xu st (vp cl) many oa (.inl (by omega))
     refine⟨e',h,S,av,acc,q1,q2,q3,q4,st,fr,oa,by omega,hid, ?_⟩
     rw[vU,if_neg hlt]
     by_cases hgt:many<acc.length
     · rw[if_pos hgt];exact .inr ⟨he,hgt⟩
     · rw[if_neg hgt];exact⟨rfl,rfl,by omega⟩
theorem HQ {c : SC} {S : SS} {h : H} {ov : AV} (st : St c S h ov) (he : S.e = 0) (many : Nat) (hm0 : 0 < many) (hm : many ≤ 400) :
 ∃ h' S' av acc, aQ AP.A 64 [.aC c.s 0, I many] h = some (av, h') ∧ St c S' h' ov ∧ Fr c h ov h' ov ∧ mX h' av (ints acc) ∧ (∀ i, av.id? = some i → h.next ≤ i) ∧ match xM c.text many S.at_ with
   |some (L,p)=>S'={S with at_:=p}∧acc=L∧L.length=many
   |none=>S'.e=700:=by
 have gs:=st.gs
 obtain⟨a,ha⟩:∃a,a=h.next:=⟨_,rfl⟩
 obtain⟨g0,hg0⟩:∃g,g=h.alloc (ints (List.replicate 19 0)):=⟨_,rfl⟩
 have al:=st.alloc (ints (List.replicate 19 0))
 rw[←hg0]at al
 have hga:g0.get a=some (ints (List.replicate 19 0)):=by rw[hg0,H.aV,if_pos ha]
 have oc:=G8 g0
 obtain⟨h1,k1,k2,k3⟩:=ya al.1 4 4 rfl (by omega)
 obtain⟨G,hG⟩:∃G,G=(u0 c 4 S).1:=⟨_,rfl⟩
 obtain⟨S1,hS1⟩:∃G,G=(u0 c 4 S).2:=⟨_,rfl⟩
 rw[←hG]at k1;rw[←hS1]at k2
 have hG16:G<16:=by
  rw[hG];unfold u0;split
  · simpa using wB c.text S.at_ 4
  · simp
 have w1:IntKind.wrap .i64 ((G:Int)+4)=((G+4:Nat):Int):=uY (n:=G+4) (by omega)
 obtain⟨x,hx⟩:∃x,x=AV.aU false (ints vi) 0 (G+4) 1:=⟨_,rfl⟩
 have sl:rD h1 1 (vN vi) none (some (I (G+4:Nat))) none=some x:=by
  rw[hx];exact Gc (by rw[pg]) (by show G+4≤19;omega)
 have xl:iH false x=some (I (G+4:Nat)):=by rw[hx];rfl
 obtain⟨xs,hxs⟩:∃xs,xs=vi.take (G+4):=⟨_,rfl⟩
 have hol:vi.length=19:=rfl
 have hxsl:xs.length=G+4:=by rw[hxs,Q9,hol];omega
 have rdx:Rd h1 x (ints xs):=by
  refine⟨?_,by rw[hx];intro s e;cases e⟩
  have ht:(ints vi).take (G+4)=ints xs:=by rw[hxs];simp [ints,List.map_take]
  simp only[aR,hx,if_true]
  rw[if_pos (by rw[pg,hol];omega),Q2,Nat.mul_one,ht];simp [hxsl]
 have hac:a≠c.s∧a≠c.r:=⟨fun e=>by have:=st.lt (.inl e);omega,fun e=>by have:=st.lt (.inr (.inl e));omega⟩
 have hoa:ov.id?≠some a:=fun e=>by have:=st.lt (.inr (.inr e));omega
 have hga1:h1.get a=some (ints (List.replicate 19 0)):=by rw[k3.F6 a (g0.lt _ _ hga) hac.1 hac.2 hoa];exact hga
 have hfa:h1.floor≤a:=by rw[k3.fl,hg0,ha];simp;exact st.nx
 obtain⟨e2,h2,l1,l2,l3,l4,l5,l6,l7,l8,l9⟩:=FB (c:=c) a x xs (fun s hs=>Dz s (List.mem_of_mem_take (hxs ▸ hs))) (by omega) hac (I many) xs [] (List.replicate 19 0) S1 h1 ov rfl rdx (by rw[hx];intro i e;cases e) k2 hoa hga1 (by simp) hfa
 obtain⟨cl,hcl⟩:∃cl,cl=(yV c xs (List.replicate 19 0) S1).1:=⟨_,rfl⟩
 obtain⟨S2,hS2⟩:∃cl,cl=(yV c xs (List.replicate 19 0) S1).2:=⟨_,rfl⟩
 rw[←hS2]at l5;rw[←hcl]at l6
 have hcll:cl.length=19:=by rw[hcl,FA];simp
 have hclb:∀y∈cl,0≤y∧y<16:=by
  rw[hcl];refine G9 c _ _ _ fun y hy=> ?_
  obtain⟨_,rfl⟩:=List.mem_replicate.1 hy;omega
 rw[hxsl]at l1
 have l1':Lp AP.A [0,1,5,18,19,20] AP.f64L1 [(0,.aC c.s 0),(1,I many),(5,.aC a 0),(18,x),(19,I (G+4:Nat)),(20,I 0)] h1=some (.exit 0,e2,h2):=l1
 clear l1
 have fr2:Fr c h ov h2 ov:=by
  refine⟨by rw[l7,k3.fl,al.2.fl], ?_,fun id i1 i2 i3 i4=> ?_,fun i hi=>.inl hi⟩
  · have:=al.2.nx;have:=k3.nx;omega
  · have hn0:g0.next=h.next+1:=by rw[hg0];simp
    have:=k3.nx
    rw[l9 id (by omega) i2 i3 i4 (by omega),k3.F6 id (by omega) i2 i3 i4,al.2.F6 id i1 i2 i3 i4]
 have rf:lN h2 19 1 (.aC a 0) none none=some (.aD a 0 19 1):=by
  simp [lN,l6,aA,hcll]
 have gG:Rd h2 (.aD a 0 19 1) (ints cl):=by
  refine⟨?_,by intro s e;cases e⟩
  simp [aR,l6,hcll,uN]
 have ck:=DZ h2 (.aD a 0 19 1) cl (by omega) gG
 have mk:=yT h2 (.aD a 0 19 1) cl (by omega) hclb gG
 have hhead:(vk cl=0∧S2.e=0∧S.at_+4≤8* c.text.size∧S.at_+4+3* (u2 c.text S.at_ 4+4)≤8* c.text.size∧cl=Ej c.text (vi.take (u2 c.text S.at_ 4+4)) (S.at_+4) (List.replicate 19 0)∧S2={S with at_:=S.at_+4+3* (u2 c.text S.at_ 4+4)})∨((vk cl≠0∨S2.e≠0)∧(S2.e=0∨S2.e=700)∧xM c.text many S.at_=none):=by
  by_cases hp:S.at_+4≤8* c.text.size
  · have eg:u0 c 4 S=(u2 c.text S.at_ 4,{S with at_:=S.at_+4}):=by rw[u0,if_pos hp]
    rw[eg]at hG hS1;dsimp only at hG hS1
    subst hS1
    by_cases hp2:S.at_+4+3* (u2 c.text S.at_ 4+4)≤8* c.text.size
    · have ok:=Ha c xs (List.replicate 19 0) {S with at_:=S.at_+4} he (by dsimp only;omega)
      rw[ok]at hcl hS2
      dsimp only at hcl hS2
      rw[hxsl,hG]at hS2
      rw[hxs,hG]at hcl
      by_cases hck:vk cl=0
      · exact .inl ⟨hck,by rw[hS2];exact he,hp,hp2,hcl,hS2⟩
      · refine .inr ⟨.inl hck,.inl (by rw[hS2];exact he), ?_⟩
        rw[xM,if_pos hp];dsimp only;rw[if_pos hp2,←hcl,if_neg hck]
    · have hb:=Fz c xs (List.replicate 19 0) {S with at_:=S.at_+4} he (by dsimp only;omega) (by dsimp only;omega)
      rw[←hS2]at hb
      refine .inr ⟨.inr (by rw[hb];decide),.inr hb, ?_⟩
      rw[xM,if_pos hp];dsimp only;rw[if_neg hp2]
  · have eg:u0 c 4 S=(0,{S with e:=700}):=by rw[u0,if_neg hp,vw,if_pos he]
    rw[eg]at hS1;dsimp only at hS1
    have hb:=Ek c xs (List.replicate 19 0) S1 (by rw[hS1])
    rw[←hS2]at hb
    exact .inr ⟨.inr (by rw[hb];decide),.inr hb,by rw[xM,if_neg hp]⟩
 have hbk:∀(h3:H) (S3:SS),St c S3 h3 ov→Fr c h ov h3 ov→aQ AP.A 41 [.aD a 0 19 1] h3=some (vp cl,h3)→lN h3 19 1 (.aC a 0) none none=some (.aD a 0 19 1)→
  (aK (aQ AP.A) bo (.cond (.t 31) (.oB [⟨some 32,.mv (.t 0),none⟩,⟨some 33,.call (.c (.fn 45 [] [])) [(.t 32),(.c (.int .i64 700))],none⟩] [0,1,5]) .skip [0,1,5]) [(0,.aC c.s 0),(1,I many),(5,.aC a 0),(31,.bool (vk cl !=0))] h2=some (.normal,[(0,.aC c.s 0),(1,I many),(5,.aC a 0)],h3))→
  ∀(e4:Env) (h4:H) (av:AV) (acc:List Int) (h5:H),Lp AP.A [0,1,9,10] AP.f64L0 [(0,.aC c.s 0),(1,I many),(9,vp cl),(10,.aO)] h3=some (.exit 2,e4,h4)→look e4 0=.aC c.s 0→look e4 1=I many→look e4 10=av→iH false av=some (I acc.length)→
  (many<acc.length→aQ AP.A 45 [.aC c.s 0,I 700] h4=some (.bJ [],h5))→(¬many<acc.length→h5=h4)→aQ AP.A 64 [.aC c.s 0,I many] h=some (av,h5):=by
  intro h3 S3 st3 fr3 mk3 sla3 cnd e4 h4 av acc h5 m1 m2 m3 m4 m5 m6 m7
  refine sZ (fn:=AP.f64) (e:=[(4,av)]) (vs:=[av]) rfl rfl rfl ?_ rfl
  have bt:∀e:Env,aX e (.alloc [.int .i64 0,.int .i64 0,.int .i64 0,.int .i64 0,.int .i64 0,.int .i64 0,.int .i64 0,.int .i64 0,.int .i64 0,.int .i64 0,.int .i64 0,.int .i64 0,.int .i64 0,.int .i64 0,.int .i64 0,.int .i64 0,.int .i64 0,.int .i64 0,.int .i64 0])=some (ints (List.replicate 19 0),fun i=>.aC i 0):=fun _=>rfl
  unfold AP.f64
  refine tS (e1:=[(0,.aC c.s 0),(1,I many)]) (h1:=h) rfl ?_
  refine tS (e1:=[(0,.aC c.s 0),(1,I many),(5,.aC a 0)]) (h1:=g0) ?_ ?_
  · simp only[go_sem,bt,←hg0,←ha]
  refine tS (e1:=[(0,.aC c.s 0),(1,I many),(5,.aC a 0),(6,vN vi)]) (h1:=g0) ?_ ?_
  · simp only[go_sem,oc]
  refine tS (e1:=[(0,.aC c.s 0),(1,I many),(5,.aC a 0)]) (h1:=h2) ?_ ?_
  · clear bt
    simp only[I]at *
    simp only[go_sem,k1,w1,QM,Rg,sl,xl,rI,l1',l2,l3,l4]
  refine tS (e1:=[(0,.aC c.s 0),(1,I many),(5,.aC a 0)]) (h1:=h3) ?_ ?_
  · refine tS (e1:=[(0,.aC c.s 0),(1,I many),(5,.aC a 0),(31,.bool (vk cl !=0))]) (h1:=h2) ?_ cnd
    simp only[I]at *
    simp only[go_sem,Rg,rf,ck]
  refine tS (e1:=[(0,.aC c.s 0),(1,I many),(9,vp cl)]) (h1:=h3) ?_ ?_
  · simp only[go_sem,Rg,sla3,mk3]
  refine tS (e1:=[(0,.aC c.s 0),(1,I many),(9,vp cl),(10,.aO)]) (h1:=h3) rfl ?_
  refine tS (e1:=[(0,.aC c.s 0),(1,I many),(10,av)]) (h1:=h4) ?_ ?_
  · simp only[go_sem,rI,m1,m2,m3,m4]
  refine tS (e1:=[(10,av)]) (h1:=h5) ?_ ?_
  · by_cases hgt:many<acc.length
    · have c1:(many:Int)<(acc.length:Int):=by omega
      have m6':=m6 hgt
      clear m6 m7
      simp only[I]at *
      simp only[go_sem,m5,QN c1,m6']
    · have c1:¬(many:Int)<(acc.length:Int):=by omega
      have m7':=m7 hgt
      subst m7'
      clear m6 m7
      simp only[I]at *
      simp only[go_sem,m5,QL c1]
  simp only[go_sem]
 rcases hhead with ⟨hck,he2,hp,hp2,hcl2,hS22⟩|⟨hbad,he2,hnone⟩
 · have hlen0:xM c.text many S.at_=vU c.text cl many (8* c.text.size+1) [] S2.at_:=by
    rw[xM,if_pos hp];dsimp only;rw[if_pos hp2,←hcl2,if_pos hck,hS22]
   have cnd:aK (aQ AP.A) bo (.cond (.t 31) (.oB [⟨some 32,.mv (.t 0),none⟩,⟨some 33,.call (.c (.fn 45 [] [])) [(.t 32),(.c (.int .i64 700))],none⟩] [0,1,5]) .skip [0,1,5]) [(0,.aC c.s 0),(1,I many),(5,.aC a 0),(31,.bool (vk cl !=0))] h2=some (.normal,[(0,.aC c.s 0),(1,I many),(5,.aC a 0)],h2):=by
    have cb:(vk cl !=0)=false:=tK hck
    simp only[go_sem,cb]
   obtain⟨e4,h4,S4,av,acc,m1,m2,m3,m4,m5,m6,m7,m8,m9,m10⟩:=Ds h cl (by omega) many hm (8* c.text.size+1) [] S2 h2 ov .aO l5 he2 (by omega) fr2 (.inl ⟨rfl,rfl⟩) (by simp) (fun i q=>by cases q) (fun i hi=>st.lt hi)
   have ln:=m7.len
   rw[pg]at ln
   rw[hlen0]
   cases hL:vU c.text cl many (8* c.text.size+1) [] S2.at_ with
   | some q =>
     obtain⟨L,p⟩:=q
     rw[hL]at m10
     obtain⟨n1,n2,n3⟩:=m10
     have hng:¬many<acc.length:=by rw[n2];omega
     refine⟨h4,S4,av,acc,hbk h2 S2 l5 fr2 mk rf cnd e4 h4 av acc h4 m1 m2 m3 m4 ln (fun q=>absurd q hng) (fun _=>rfl),m5,m6,m7,m9, ?_,n2,n3⟩
     rw[n1,hS22]
   | none =>
     rw[hL]at m10
     dsimp only at m10 ⊢
     by_cases hgt:many<acc.length
     · obtain⟨h5,f1,f2,f3⟩:=wJ m5 700
       refine⟨h5,vw 700 S4,av,acc,hbk h2 S2 l5 fr2 mk rf cnd e4 h4 av acc h5 m1 m2 m3 m4 ln (fun _=>f1) (fun q=>absurd hgt q),f2,m6.trans f3, ?_,m9, ?_⟩
       · refine m7.mono f3.fl fun i hi=>f3.F6 i (m7.lt hi) (fun e=> ?_) (fun e=> ?_) (fun e=> ?_)
         · have:=m9 i hi;have:=st.lt (.inl e);omega
         · have:=m9 i hi;have:=st.lt (.inr (.inl e));omega
         · have:=m9 i hi;have:=st.lt (.inr (.inr e));omega
       · rcases m10 with q|⟨q,_⟩<;>simp [vw,q]
     · refine⟨h4,S4,av,acc,hbk h2 S2 l5 fr2 mk rf cnd e4 h4 av acc h4 m1 m2 m3 m4 ln (fun q=>absurd q hgt) (fun _=>rfl),m5,m6,m7,m9, ?_⟩
       rcases m10 with q|⟨_,q⟩
       · exact q
       · exact absurd q hgt
 · rw [hnone]
   have key:∃h3 S3,St c S3 h3 ov∧Fr c h ov h3 ov∧S3.e=700∧h3.get a=some (ints cl)∧aK (aQ AP.A) bo (.cond (.t 31) (.oB [⟨some 32,.mv (.t 0),none⟩,⟨some 33,.call (.c (.fn 45 [] [])) [(.t 32),(.c (.int .i64 700))],none⟩] [0,1,5]) .skip [0,1,5]) [(0,.aC c.s 0),(1,I many),(5,.aC a 0),(31,.bool (vk cl !=0))] h2=some (.normal,[(0,.aC c.s 0),(1,I many),(5,.aC a 0)],h3):=by
    by_cases hck:vk cl=0
    · have hb:S2.e≠0:=by rcases hbad with q|q;exact absurd hck q;exact q
      refine⟨h2,S2,l5,fr2,by rcases he2 with q|q;exact absurd q hb;exact q,l6, ?_⟩
      have cb:(vk cl !=0)=false:=tK hck
      simp only[go_sem,cb]
    · obtain⟨h3,f1,f2,f3⟩:=wJ l5 700
      refine⟨h3,vw 700 S2,f2,fr2.trans f3,by rcases he2 with q|q<;>simp [vw,q],by rw[f3.F6 a (h2.lt _ _ l6) hac.1 hac.2 hoa];exact l6, ?_⟩
      have cb:(vk cl !=0)=true:=tL hck
      simp only[I]at *
      simp only[go_sem,cb,f1]
   obtain⟨h3,S3,st3,fr3,he3,hg3,cnd⟩:=key
   have sla3:lN h3 19 1 (.aC a 0) none none=some (.aD a 0 19 1):=by
    simp [lN,hg3,aA,hcll]
   have rdc3:Rd h3 (.aD a 0 19 1) (ints cl):=by
    refine⟨?_,by intro s e;cases e⟩
    simp [aR,hg3,hcll,uN]
   have mk3:=yT h3 (.aD a 0 19 1) cl (by omega) hclb rdc3
   obtain⟨e4,m1,m2,m3,m4⟩:=xu st3 (vp cl) many (av:=.aO) (acc:=[]) (.inl ⟨rfl,rfl⟩) (.inr ⟨by simpa using hm0,by rw[he3];decide⟩)
   exact⟨h3,S3,.aO,[],hbk h3 S3 st3 fr3 mk3 sla3 cnd e4 h3 .aO [] h3 m1 m2 m3 m4 rfl (fun q=>by simp at q) (fun _=>rfl),st3,fr3,.inl ⟨rfl,rfl⟩,(fun i q=>by cases q),he3⟩
def yU (l:List Int):Prop:=∀y∈l,0≤y∧y<16
theorem F9 {t : ByteArray} {y : Int} {acc : List Int} {n : Int} {q times p2 : Nat} (hy : 0 ≤ y ∧ y < 19) (ha : yU acc) (h : yn t y acc q = some (n, times, p2)) : 0 ≤ n ∧ n < 16 := by
 unfold yn at h
 split at h
 · split at h
   · cases h
   · rename_i hn
     split at h
     · have:=Rj (fun o=>o.map (·.1)) h
       simp only[QM,ui]at this
       rw[←this]
       have hl:0<acc.length:=List.length_pos_iff.2 hn
       refine ha _ ?_
       rw[QH,QJ (by omega)]
       exact QY _
     · cases h
 · split at h
   · split at h
     · have:=Rj (fun o=>o.map (·.1)) h
       simp only[QM,ui]at this;omega
     · cases h
   · split at h
     · split at h
       · have:=Rj (fun o=>o.map (·.1)) h
         simp only[QM,ui]at this;omega
       · cases h
     · have:=Rj (fun o=>o.map (·.1)) h
       simp only[QM,ui]at this;omega
theorem Am {t : ByteArray} {cl : List Int} (hcl : cl.length = 19) {many : Nat} : ∀ {f : Nat} {acc : List Int} {p : Nat} {L : List Int} {p2 : Nat}, yU acc → vU t cl many f acc p = some (L, p2) → yU L
 |0,_,_,_,_,_,h=>by cases h
 | f + 1, acc, p, L, p2, ha, h => by
   rw[vU]at h
   split at h
   · split at h
     · cases h
     · rename_i y p1 hs
       have sb:=xP hs
       split at h
       · cases h
       · rename_i n times q hag
         have hr:=F9 ⟨sb.1,by omega⟩ ha hag
         exact Am hcl (fun y hy=>by
          rcases Q7.1 hy with hy|hy
          · exact ha y hy
          · obtain⟨_,rfl⟩:=List.mem_replicate.1 hy;exact hr) h
   · split at h
     · cases h
     · have:=Rj (fun o=>o.map (·.1)) h
       simp only[QM,ui]at this;rw[←this];exact ha
theorem Fx (t:ByteArray):∀(r:List Int) (p:Nat) (o:List Int),(Ej t r p o).length=o.length
 |[],_,_=>rfl
 |s::r,p,o=>by rw[Ej,Fx t r];simp
theorem HR {t:ByteArray} {many p:Nat} {L:List Int} {p2:Nat} (h:xM t many p=some (L,p2)):yU L:=by
 unfold xM at h
 split at h
 · dsimp only at h
   split at h
   · split at h
     · exact Am (by rw[Fx];simp) (fun y hy=>by cases hy) h
     · cases h
   · cases h
 · cases h
def HK (t : ByteArray) (most : Int) (p : Nat) (out : List Nat) : Rs :=
 if p+10≤8* t.size then
  let lits:=u2 t p 5+257
  let dists:=u2 t (p+5) 5+1
  if 286<lits∨30<dists then .error 700 else
  match xM t (lits+dists) (p+10)with
  |none=>.error 700
  | some (L, p2) =>
    if vk (L.take lits)≠0∨(L.take lits).getD 256 0=0∨(vk (L.drop lits)≠0∧wT (L.drop lits)=false)then .error 700
    else wL t most (L.take lits) (L.drop lits) (8* t.size+1) p2 out
 else .error 700
theorem HL {c : SC} {S : SS} {h : H} {ov : AV} (st : St c S h ov) (he : S.e = 0) :
 ∃h' ov' S',aQ AP.A 44 [.aC c.s 0] h=some (.bJ [],h')∧St c S' h' ov'∧Fr c h ov h' ov'∧Fin (HK c.text c.most S.at_ S.out) S':=by
 obtain⟨h1,a1,a2,a3⟩:=ya st 5 5 rfl (by omega)
 obtain⟨h2,b1,b2,b3⟩:=ya a2 5 5 rfl (by omega)
 obtain⟨A,hA⟩:∃n,n=(u0 c 5 S).1:=⟨_,rfl⟩
 obtain⟨S1,hS1⟩:∃n,n=(u0 c 5 S).2:=⟨_,rfl⟩
 rw[←hA]at a1;rw[←hS1]at a2 b1 b2
 obtain⟨B,hB⟩:∃n,n=(u0 c 5 S1).1:=⟨_,rfl⟩
 obtain⟨S2,hS2⟩:∃n,n=(u0 c 5 S1).2:=⟨_,rfl⟩
 rw[←hB]at b1;rw[←hS2]at b2
 have g5:∀S,(u0 c 5 S).1<32:=fun S=>by
  unfold u0;split
  · simpa using wB c.text S.at_ 5
  · simp
 have hA32:A<32:=hA ▸ g5 S
 have hB32:B<32:=hB ▸ g5 S1
 have w1:IntKind.wrap .i64 ((A:Int)+257)=((A+257:Nat):Int):=uY (n:=A+257) (by omega)
 have w2:IntKind.wrap .i64 ((B:Int)+1)=((B+1:Nat):Int):=uY (n:=B+1) (by omega)
 have gs2:=b2.gs
 have he2:S2.e=0∨S2.e=700:=by rw[hS2];exact IK c 5 _ (by rw[hS1];exact IK c 5 S (.inl he))
 have fr2:=a3.trans b3
 have bad:(S2.e≠0∨286<A+257∨30<B+1)→∃h' ov' S',aQ AP.A 44 [.aC c.s 0] h=some (.bJ [],h')∧St c S' h' ov'∧Fr c h ov h' ov'∧S'.e=700∧(700:Int)≠0:=by
  intro hb
  obtain⟨h3,f1,f2,f3⟩:=wJ b2 700
  refine⟨h3,ov,vw 700 S2, ?_,f2,fr2.trans f3,by rcases he2 with q|q<;>simp [vw,q],by decide⟩
  refine sZ (fn:=AP.f44) (e:=[]) (vs:=[]) rfl rfl rfl ?_ rfl
  by_cases c1:S2.e=0
  · have c1':=tK c1
    by_cases c2:286<A+257
    · have c2':(286:Int)<((A+257:Nat):Int):=by omega
      simp only[I]at *
      simp only[AP.f44,go_sem,a1,b1,w1,w2,gs2,c1',QN c2',f1]
    · have c2':¬(286:Int)<((A+257:Nat):Int):=by omega
      have c3':(30:Int)<((B+1:Nat):Int):=by
       rcases hb with q|q|q
       · exact absurd c1 q
       · exact absurd q c2
       · omega
      simp only[I]at *
      simp only[AP.f44,go_sem,a1,b1,w1,w2,gs2,c1',QL c2',QN c3',f1]
  · have c1':=tL c1
    simp only[I]at *
    simp only[AP.f44,go_sem,a1,b1,w1,w2,gs2,c1',f1]
 unfold HK
 by_cases hp:S.at_+10≤8* c.text.size
 · have e1 : u0 c 5 S = (u2 c.text S.at_ 5, { S with at_ := S.at_ + 5 }) := by rw [u0, if_pos (by omega)]
   rw[e1]at hA hS1;dsimp only at hA hS1
   have e2:u0 c 5 {S with at_:=S.at_+5}=(u2 c.text (S.at_+5) 5,{S with at_:=S.at_+5+5}):=by rw[u0,if_pos (by show S.at_+5+5≤_;omega)]
   rw[hS1,e2]at hB hS2;dsimp only at hB hS2
   rw[if_pos hp]
   dsimp only
   rw[←hA,←hB]
   by_cases hbig:286<A+257∨30<B+1
   · rw[if_pos hbig];exact bad (.inr hbig)
   · rw [if_neg hbig]
     have c1':(S2.e !=0)=false:=tK (by rw[hS2];exact he)
     have c2':¬(286:Int)<((A+257:Nat):Int):=by omega
     have c3':¬(30:Int)<((B+1:Nat):Int):=by omega
     have w3:IntKind.wrap .i64 (((A+257:Nat):Int)+((B+1:Nat):Int))=((A+257+(B+1):Nat):Int):=by
      rw[show((A+257:Nat):Int)+((B+1:Nat):Int)=((A+257+(B+1):Nat):Int)by omega];exact uY (by omega)
     obtain⟨h3,S3,av,acc,l1,l2,l3,l4,l5,l6⟩:=HQ b2 (by rw[hS2];exact he) (A+257+(B+1)) (by omega) (by omega)
     have gs3:=l2.gs
     have hat2:S2.at_=S.at_+10:=by rw[hS2]
     rw[hat2]at l6
     cases hL:xM c.text (A+257+(B+1)) (S.at_+10)with
     | none =>
       rw[hL]at l6
       have c4:(S3.e !=0)=true:=tL (by rw[l6];decide)
       refine⟨h3,ov,S3, ?_,l2,fr2.trans l3,l6,by decide⟩
       refine sZ (fn:=AP.f44) (e:=[(0,.aC c.s 0),(2,I (A+257:Nat)),(4,av),(37,.bool true)]) (vs:=[]) rfl rfl rfl ?_ rfl
       simp only[I]at *
       simp only[AP.f44,go_sem,a1,b1,w1,w2,gs2,c1',QL c2',QL c3',w3,l1,gs3,c4]
     | some q =>
       obtain⟨L,p2⟩:=q
       rw[hL]at l6
       obtain⟨l6,l7,l8⟩:=l6
       subst l7
       have hrng:=HR hL
       dsimp only
       have he3:S3.e=0:=by rw[l6,hS2];exact he
       have c4:(S3.e !=0)=false:=tK he3
       obtain⟨id,hav,hgid⟩:∃id,av=.aD id 0 (A+257+(B+1)) 1∧h3.get id=some (ints acc):=by
        rcases l4 with ⟨_,q⟩|⟨id,q1,q2,_⟩
        · have:=Rj List.length q;rw[pg,l8,QK]at this;omega
        · exact⟨id,by rw[q1,pg,l8],q2⟩
       have hil:(ints acc).length=A+257+(B+1):=by rw[pg,l8]
       have s1:=Gb (h:=h3) (k:=A+257) hgid hil (uw _) (by omega)
       have s2:=Iq (h:=h3) (k:=A+257) hgid hil (by omega)
       rw[show A+257+(B+1)-(A+257)=B+1 by omega]at s2
       rw[←hav]at s1 s2
       obtain⟨la,hla⟩:∃x,x=acc.take (A+257):=⟨_,rfl⟩
       obtain⟨lb,hlb⟩:∃x,x=acc.drop (A+257):=⟨_,rfl⟩
       have hlal:la.length=A+257:=by rw[hla,Q9];omega
       have hlbl:lb.length=B+1:=by rw[hlb,List.length_drop];omega
       have ra:Rd h3 (.aD id 0 (A+257) 1) (ints la):=by
        refine⟨?_,by intro s e;cases e⟩
        simp only[aR,if_true,hgid,uq]
        rw[if_pos (by rw[hil];omega),hla];simp [ints,List.map_take];omega
       have rb:Rd h3 (.aD id (A+257) (B+1) 1) (ints lb):=by
        refine⟨?_,by intro s e;cases e⟩
        simp only[aR,if_true,hgid,uq]
        rw[if_pos (by rw[hil];omega),hlb]
        have:(ints (acc.drop (A+257))).length=B+1:=by rw[pg,←hlb,hlbl]
        rw[this,ints,ints,←List.map_drop,Nat.mul_one,uN (by rw[Rk,←hlb,hlbl];omega)]
       rw[←hla,←hlb]
       have cka:=DZ h3 _ la (by omega) ra
       have ckb:=DZ h3 _ lb (by omega) rb
       have hra:yU la:=fun y hy=>hrng y (List.mem_of_mem_take (hla ▸ hy))
       have hrb:yU lb:=fun y hy=>hrng y (List.mem_of_mem_drop (hlb ▸ hy))
       have sgb:=Jq h3 _ lb (by omega) hrb rb
       have mka:=yT h3 _ la (by omega) hra ra
       have mkb:=yT h3 _ lb (by omega) hrb rb
       have hel:=Dl (l:=la) (i:=256) (by omega)
       obtain⟨ad,p1,p2'⟩:=ra.elem hel
       have p3:=p2' h3 (fun _ _ q=>q)
       have p1':fC 1 (.aD id 0 (A+257) 1) (I 256)=some ad:=p1
       clear p1 p2'
       obtain⟨cb,hcb⟩:∃b:Bool,(b=true↔vk la≠0∨la.getD 256 0=0∨(vk lb≠0∧wT lb=false)):=⟨decide _,decide_eq_true_iff⟩
       have step:∀k,aK (aQ AP.A) bo k [(0,.aC c.s 0),(2,I (A+257:Nat)),(4,av)] h3=aK (aQ AP.A) bo k [(0,.aC c.s 0),(2,I (A+257:Nat)),(4,av)] h3:=fun _=>rfl
       by_cases hbad:vk la≠0∨la.getD 256 0=0∨(vk lb≠0∧wT lb=false)
       · rw [if_pos hbad]
         obtain⟨h4,f1,f2,f3⟩:=wJ l2 700
         refine⟨h4,ov,vw 700 S3, ?_,f2,(fr2.trans l3).trans f3,by simp [vw,he3],by decide⟩
         refine sZ (fn:=AP.f44) (e:=[]) (vs:=[]) rfl rfl rfl ?_ rfl
         by_cases d1:vk la=0
         · have d1':=tK d1
           by_cases d2:la.getD 256 0=0
           · have d2':=tJ d2
             simp only[I]at *
             simp only[AP.f44,go_sem,a1,b1,w1,w2,gs2,c1',QL c2',QL c3',w3,l1,gs3,c4,QM,Rg,s1,s2,cka,d1',p1',p3,d2',f1]
           · have d2':=tI d2
             obtain⟨d3,d4⟩:vk lb≠0∧wT lb=false:=by
              rcases hbad with q|q|q
              · exact absurd d1 q
              · exact absurd q d2
              · exact q
             have d3':=tL d3
             rw[d4]at sgb
             simp only[I]at *
             simp only[AP.f44,go_sem,a1,b1,w1,w2,gs2,c1',QL c2',QL c3',w3,l1,gs3,c4,QM,Rg,s1,s2,cka,d1',p1',p3,d2',ckb,d3',sgb,f1]
         · have d1':=tL d1
           simp only[I]at *
           simp only[AP.f44,go_sem,a1,b1,w1,w2,gs2,c1',QL c2',QL c3',w3,l1,gs3,c4,QM,Rg,s1,s2,cka,d1',f1]
       · rw [if_neg hbad]
         have d1:vk la=0:=Decidable.byContradiction fun q=>hbad (.inl q)
         have d2:la.getD 256 0≠0:=fun q=>hbad (.inr (.inl q))
         have d1':=tK d1
         have d2':=tI d2
         obtain⟨h4,ov4,S4,q1,q2,q3,q4⟩:=GQ la lb (by omega) (by omega) l2 he3
         refine⟨h4,ov4,S4, ?_,q2,(fr2.trans l3).trans q3, ?_⟩
         · refine vM (fn:=AP.f44) (e:=[]) (vs:=[]) rfl rfl rfl ?_ rfl
           by_cases d3:vk lb=0
           · have d3':=tK d3
             simp only[I]at *
             simp only[AP.f44,go_sem,a1,b1,w1,w2,gs2,c1',QL c2',QL c3',w3,l1,gs3,c4,QM,Rg,s1,s2,cka,d1',p1',p3,d2',ckb,d3',mka,mkb,q1]
           · have d3':=tL d3
             have d4:wT lb=true:=by
              cases hs:wT lb with
              |true=>rfl
              |false=>exact absurd (.inr (.inr ⟨d3,hs⟩)) hbad
             rw[d4]at sgb
             simp only[I]at *
             simp only[AP.f44,go_sem,a1,b1,w1,w2,gs2,c1',QL c2',QL c3',w3,l1,gs3,c4,QM,Rg,s1,s2,cka,d1',p1',p3,d2',ckb,d3',sgb,mka,mkb,q1]
         · have:S3.at_=p2:=by rw[l6]
           have ho:S3.out=S.out:=by rw[l6,hS2]
           rw[this,ho]at q4;exact q4
 · rw[if_neg hp]
   refine bad (.inl ?_)
   rw[hS2,hS1]
   unfold u0
   by_cases q1:S.at_+5≤8* c.text.size
   · simp only[if_pos q1];rw[if_neg (by omega)];simp [vw,he]
   · simp only[if_neg q1,vw,he,if_true];split<;>simp
def xS (t : ByteArray) (most : Int) (p : Nat) (out : List Nat) : Except Int (Bool × Nat × List Nat) :=
 if p+3≤8* t.size then
  let r:Rs:=if u2 t (p+1) 2=0 then BF t most (p+3) out
   else if u2 t (p+1) 2=1 then wL t most vb (List.replicate 30 5) (8* t.size+1) (p+3) out
   else if u2 t (p+1) 2=2 then HK t most (p+3) out
   else .error 700
  match r with
  | .ok q=>.ok (u2 t p 1==1,q.1,q.2)
  | .error k=>.error k
 else .error 700
def NG (r:Except Int (Bool×Nat×List Nat)) (b:Bool) (S:SS):Prop:=match r with
 | .ok q=>b=q.1∧S=⟨q.2.1,q.2.2,0⟩
 | .error k=>S.e=k∧k≠0
theorem B4:vb.length=288:=by simp only[vb,uS,QX]
theorem Gl:yU vb:=by
 intro y hy
 simp only[vb,Q7]at hy
 rcases hy with hy|hy|hy|hy<;>(obtain⟨_,rfl⟩:=List.mem_replicate.1 hy;omega)
theorem HM:yU (List.replicate 30 5):=by
 intro y hy
 obtain⟨_,rfl⟩:=List.mem_replicate.1 hy;omega
theorem JV {c : SC} {S : SS} {h : H} {ov : AV} (st : St c S h ov) (he : S.e = 0) :
 ∃h' ov' S' b,aQ AP.A 15 [.aC c.s 0] h=some (.bool b,h')∧St c S' h' ov'∧Fr c h ov h' ov'∧NG (xS c.text c.most S.at_ S.out) b S':=by
 obtain⟨h1,a1,a2,a3⟩:=ya st 1 1 rfl (by omega)
 obtain⟨h2,b1,b2,b3⟩:=ya a2 2 2 rfl (by omega)
 obtain⟨A,hA⟩:∃n,n=(u0 c 1 S).1:=⟨_,rfl⟩
 obtain⟨S1,hS1⟩:∃n,n=(u0 c 1 S).2:=⟨_,rfl⟩
 rw[←hA]at a1;rw[←hS1]at a2 b1 b2
 obtain⟨B,hB⟩:∃n,n=(u0 c 2 S1).1:=⟨_,rfl⟩
 obtain⟨S2,hS2⟩:∃n,n=(u0 c 2 S1).2:=⟨_,rfl⟩
 rw[←hB]at b1;rw[←hS2]at b2
 have gs2:=b2.gs
 have fr2:=a3.trans b3
 obtain⟨lb,hlb⟩:∃b:Bool,b=((A:Int)==1):=⟨_,rfl⟩
 unfold xS
 by_cases hp:S.at_+3≤8* c.text.size
 · rw [if_pos hp]
   have e1:u0 c 1 S=(u2 c.text S.at_ 1,{S with at_:=S.at_+1}):=by rw[u0,if_pos (by omega)]
   rw[e1]at hA hS1;dsimp only at hA hS1
   have e2:u0 c 2 {S with at_:=S.at_+1}=(u2 c.text (S.at_+1) 2,{S with at_:=S.at_+1+2}):=by rw[u0,if_pos (by show S.at_+1+2≤_;omega)]
   rw[hS1,e2]at hB hS2;dsimp only at hB hS2
   have he2:S2.e=0:=by rw[hS2];exact he
   have hat:S2.at_=S.at_+3:=by rw[hS2]
   have hout:S2.out=S.out:=by rw[hS2]
   dsimp only
   rw[←hA,←hB]
   have hlb2:lb=(A==1):=by
    rw[hlb];by_cases q:A=1
    · subst q;rfl
    · rw[tI (by omega)];symm;simp [q]
   have wrap:∀(r:Rs) (h':H) (ov':AV) (S':SS),aQ AP.A 15 [.aC c.s 0] h=some (.bool lb,h')→St c S' h' ov'→Fr c h2 ov h' ov'→Fin r S'→∃h' ov' S' b,aQ AP.A 15 [.aC c.s 0] h=some (.bool b,h')∧St c S' h' ov'∧Fr c h ov h' ov'∧NG (match r with| .ok q=>.ok (A==1,q.1,q.2)| .error k=>.error k) b S':=by
    intro r h' ov' S' q1 q2 q3 q4
    refine⟨h',ov',S',lb,q1,q2,fr2.trans q3, ?_⟩
    cases r with
    |ok q=>exact⟨hlb2,q4⟩
    |error k=>exact q4
   have c0:(S2.e==0)=true:=tJ he2
   by_cases d0:B=0
   · rw[if_pos d0]
     obtain⟨h',ov',S',q1,q2,q3,q4⟩:=JB b2 he2
     rw[hat,hout]at q4
     refine wrap _ h' ov' S' ?_ q2 q3 q4
     have d0':((B:Int)==0)=true:=tJ (by omega)
     refine sZ (fn:=AP.f15) (e:=[(2,.bool lb)]) rfl rfl rfl ?_ rfl
     simp only[I]at *
     simp only[AP.f15,go_sem,a1,b1,←hlb,d0',gs2,c0,q1]
   · rw [if_neg d0]
     have d0':((B:Int)==0)=false:=tI (by omega)
     by_cases d1:B=1
     · rw[if_pos d1]
       have d1':((B:Int)==1)=true:=tJ (by omega)
       have f1:=GY h2
       have m1:=yT h2 (vN vb) vb (by rw[B4];omega) Gl (xh _ _)
       have al:=b2.alloc [I 5]
       have r1:=xF (h2.alloc [I 5]) (.aD h2.next 0 1 1) 5 30 (by omega) (zg _ _)
       have r1':aQ AP.A 43 [.aD h2.next 0 1 1,I 30] (h2.alloc [I 5])=some (vN (List.replicate 30 5),h2.alloc [I 5]):=by
        rw[vN,QX];exact r1
       have m2:=yT (h2.alloc [I 5]) (vN (List.replicate 30 5)) (List.replicate 30 5) (by rw[QX];omega) HM (xh _ _)
       obtain⟨h',ov',S',q1,q2,q3,q4⟩:=GQ vb (List.replicate 30 5) (by rw[B4];omega) (by rw[QX];omega) al.1 he2
       rw[hat,hout]at q4
       refine wrap _ h' ov' S' ?_ q2 (al.2.trans q3) q4
       refine sZ (fn:=AP.f15) (e:=[(2,.bool lb)]) rfl rfl rfl ?_ rfl
       clear r1
       generalize vp vb=bf at *
       generalize vp (List.replicate 30 5)=bd at *
       generalize vN vb=vf at *
       generalize vN (List.replicate 30 5)=vd at *
       simp only[I]at *
       simp only[AP.f15,go_sem,a1,b1,←hlb,d0',d1',f1,m1,NN,I,r1',m2,q1]
     · rw[if_neg d1]
       have d1':((B:Int)==1)=false:=tI (by omega)
       by_cases d2:B=2
       · rw[if_pos d2]
         have d2':((B:Int)==2)=true:=tJ (by omega)
         obtain⟨h',ov',S',q1,q2,q3,q4⟩:=HL b2 he2
         rw[hat,hout]at q4
         refine wrap _ h' ov' S' ?_ q2 q3 q4
         refine sZ (fn:=AP.f15) (e:=[(2,.bool lb)]) rfl rfl rfl ?_ rfl
         simp only[I]at *
         simp only[AP.f15,go_sem,a1,b1,←hlb,d0',d1',d2',q1]
       · rw[if_neg d2]
         have d2':((B:Int)==2)=false:=tI (by omega)
         obtain⟨h',q1,q2,q3⟩:=wJ b2 700
         refine wrap (.error 700) h' ov _ ?_ q2 q3 ⟨by simp [vw,he2],by decide⟩
         refine sZ (fn:=AP.f15) (e:=[(2,.bool lb)]) rfl rfl rfl ?_ rfl
         simp only[I]at *
         simp only[AP.f15,go_sem,a1,b1,←hlb,d0',d1',d2',q1]
 · rw [if_neg hp]
   have hB0:B=0∧S2.e=700:=by
    by_cases q1:S.at_+1≤8* c.text.size
    · have e1:u0 c 1 S=(u2 c.text S.at_ 1,{S with at_:=S.at_+1}):=by rw[u0,if_pos q1]
      rw[e1]at hS1;dsimp only at hS1
      have e2:u0 c 2 S1=(0,{S1 with e:=700}):=by rw[u0,if_neg (by rw[hS1];show¬S.at_+1+2≤_;omega),vw,if_pos (by rw[hS1];exact he)]
      rw[e2]at hB hS2
      exact⟨hB,by rw[hS2]⟩
    · have e1:u0 c 1 S=(0,{S with e:=700}):=by rw[u0,if_neg q1,vw,if_pos he]
      rw[e1]at hS1;dsimp only at hS1
      have e2:u0 c 2 S1=(0,S1):=by rw[u0,if_neg (by rw[hS1];show¬S.at_+2≤_;omega),vw,if_neg (by rw[hS1];simp)]
      rw[e2]at hB hS2
      exact⟨hB,by rw[hS2,hS1]⟩
   have d0':((B:Int)==0)=true:=tJ (by omega)
   have c0:(S2.e==0)=false:=tI (by rw[hB0.2];decide)
   refine⟨h2,ov,S2,lb, ?_,b2,fr2,hB0.2,by decide⟩
   refine sZ (fn:=AP.f15) (e:=[(2,.bool lb)]) rfl rfl rfl ?_ rfl
   simp only[I]at *
   simp only[AP.f15,go_sem,a1,b1,←hlb,d0',gs2,c0]
def yA (t : ByteArray) (most : Int) : Nat → Nat → List Nat → Rs
 |0,_,_=>.error 700
 | f + 1, p, out => match xS t most p out with
   | .error k=>.error k
   | .ok (last,p2,o)=>if last then .ok (p2,o)else yA t most f p2 o
theorem Ff {c:SC} {S:SS} {h:H} {ov:AV} (st:St c S h ov) (b:Bool) (hs:b=true∨S.e≠0):
 ∃e',Lp AP.A [7,8] AP.f7L0 [(7,.aC c.s 0),(8,.bool b)] h=some (.exit 0,e',h)∧look e' 7=.aC c.s 0:=by
 have gs:=st.gs
 refine⟨[(7,.aC c.s 0),(28,.bool false)],sK ?_,rfl⟩
 cases b with
 | true =>
   simp only[I]at *
   simp only[AP.f7L0,go_sem]
 | false =>
   have c2:(S.e==0)=false:=tI (by rcases hs with q|q;cases q;exact q)
   simp only[I]at *
   simp only[AP.f7L0,go_sem,gs,c2]
theorem DN {t:ByteArray} {most:Int}:∀{n p:Nat} {out:List Nat} {p2:Nat} {o:List Nat},xU t most n p out=.ok (p2,o)→p≤p2
 |0,p,out,p2,o,h=>by rw[xU]at h;cases h;exact uw _
 | n + 1, p, out, p2, o, h => by
   rw[xU]at h
   split at h
   · split at h
     · cases h
     · have:=DN h;omega
   · cases h
theorem y9 {t : ByteArray} {most : Int} {ll dl : List Int} : ∀ {k p : Nat} {out : List Nat} {p2 : Nat} {o : List Nat}, wL t most ll dl k p out = .ok (p2, o) → p < p2
 |0,_,_,_,_,h=>by cases h
 | k + 1, p, out, p2, o, h => by
   rw[wL]at h
   split at h
   · cases h
   · rename_i y p1 hs
     have sb:=xP hs
     split at h
     · split at h
       · cases h
       · have:=y9 h;omega
     · split at h
       · cases h;omega
       · split at h
         · rename_i p3 o3 hc
           have:=EW hc
           have:=y9 h;omega
         · cases h
theorem Bf {t : ByteArray} {cl : List Int} {many : Nat} : ∀ {f : Nat} {acc : List Int} {p : Nat} {L : List Int} {p2 : Nat}, vU t cl many f acc p = some (L, p2) → p ≤ p2
 |0,_,_,_,_,h=>by cases h
 | f + 1, acc, p, L, p2, h => by
   rw[vU]at h
   split at h
   · split at h
     · cases h
     · rename_i y p1 hs
       have sb:=xP hs
       split at h
       · cases h
       · rename_i n times q hag
         have:=Bf h
         have:p1≤q:=by
          unfold yn at hag
          repeat' split at hag
          all_goals first
           |(cases hag;done)
           |(have:=Rj (fun o=>o.map (·.2.2)) hag;simp only[QM,ui]at this;omega)
         omega
   · split at h
     · cases h
     · have:=Rj (fun o=>o.map (·.2)) h
       simp only[QM,ui]at this;omega
theorem HD {t : ByteArray} {most : Int} {p : Nat} {out : List Nat} {q : Bool × Nat × List Nat} (h : xS t most p out = .ok q) : p < q.2.1 := by
 unfold xS at h
 split at h
 · dsimp only at h
   have key:∀{r:Rs},(match r with| .ok q=>Except.ok (u2 t p 1==1,q.1,q.2)| .error k=>.error k)=Except.ok (ε:=Int) q→∃z,r=.ok z∧z.1=q.2.1:=by
    intro r h
    cases r with
    |ok z=>cases h;exact⟨z,rfl,rfl⟩
    |error k=>cases h
   obtain⟨z,h1,h2⟩:=key h
   rw[←h2]
   split at h1
   · unfold BF at h1
     dsimp only at h1
     split at h1
     · split at h1
       · have:=DN h1;omega
       · cases h1
     · cases h1
   · split at h1
     · have:=y9 h1;omega
     · split at h1
       · unfold HK at h1
         split at h1
         · dsimp only at h1
           split at h1
           · cases h1
           · split at h1
             · cases h1
             · rename_i L p2 hl
               split at h1
               · cases h1
               · have:=y9 h1
                 have:p+3≤p2:=by
                  unfold xM at hl
                  split at hl
                  · dsimp only at hl
                    split at hl
                    · split at hl
                      · have:=Bf hl;omega
                      · cases hl
                    · cases hl
                  · cases hl
                 omega
         · cases h1
       · cases h1
 · cases h
theorem Fe {c : SC} : ∀ (f : Nat) (S : SS) (h : H) (ov : AV), St c S h ov → S.e = 0 → 8 * c.text.size < S.at_ + f →
 ∃e' h' ov' S',Lp AP.A [7,8] AP.f7L0 [(7,.aC c.s 0),(8,.bool false)] h=some (.exit 0,e',h')∧look e' 7=.aC c.s 0∧St c S' h' ov'∧Fr c h ov h' ov'∧Fin (yA c.text c.most f S.at_ S.out) S'
 |0,S,h,ov,st,he,hk=>by have:=st.xW;omega
 | f + 1, S, h, ov, st, he, hk => by
   have gs:=st.gs
   obtain⟨h1,ov1,S1,b,q1,q2,q3,q4⟩:=JV st he
   have step:aK (aQ AP.A) bo AP.f7L0 (ax [(7,.aC c.s 0),(8,.bool false)] [7,8]) h=some (.normal,[(7,.aC c.s 0),(8,.bool b)],h1):=by
    simp only[I]at *
    simp only[AP.f7L0,go_sem,gs,he,q1]
   rw[yA]
   cases hb:xS c.text c.most S.at_ S.out with
   | error k =>
     rw[hb]at q4
     obtain⟨e',r1,r2⟩:=Ff q2 b (.inr (by rw[q4.1];exact q4.2))
     exact⟨e',h1,ov1,S1,sL step r1,r2,q2,q3,q4⟩
   | ok z =>
     obtain⟨last,p2,o⟩:=z
     rw[hb]at q4
     obtain⟨q5,q6⟩:=q4
     dsimp only at q5 q6 ⊢
     subst q5
     cases b with
     | true =>
       obtain⟨e',r1,r2⟩:=Ff q2 true (.inl rfl)
       exact⟨e',h1,ov1,S1,sL step r1,r2,q2,q3,q6⟩
     | false =>
       have hge:=HD hb
       dsimp only at hge
       subst q6
       obtain⟨e',h',ov',S',r1,r2,r3,r4,r5⟩:=Fe f _ h1 ov1 q2 rfl (by dsimp only;omega)
       exact⟨e',h',ov',S',sL step r1,r2,r3,q3.trans r4,r5⟩
def bytesOf (l:List Nat):ByteArray:=⟨(l.map UInt8.ofNat).toArray⟩
def xB (t:ByteArray) (most:Int):Except Int (List Nat×Nat):=
 if most<0∨8192<most then .error 700 else
 match yA t most (8* t.size+1) 0 []with
 | .ok q=>.ok (q.2,(q.1+7)/8)
 | .error k=>.error k
def Pt (r:Except Int (List Nat×Nat)):AV:=match r with
 | .ok q=>.bJ [.str (bytesOf q.1),I q.2,I 0]
 | .error k=>.bJ [.str ⟨#[]⟩,I 0,I k]
theorem DW:∀l:List Nat,kh (xK l)=some (l.map UInt8.ofNat)
 |[]=>rfl
 | x :: l => by
   have:xK (x::l)=.int .u8 x::xK l:=rfl
   rw[this,kh,DW l];simp
theorem JS {h:H} {v:AV} {l:List Nat} (o:mX h v (xK l)):tq h v (aR h 1 v)=some (.str (bytesOf l),h):=by
 rcases o with ⟨rfl,q⟩|⟨id,rfl,q,_⟩
 · have:l=[]:=by cases l with|nil=>rfl|cons _ _=>cases q
   subst this;rfl
 · simp only[aR,if_true,q,uq]
   rw[if_pos (by omega)]
   have:((xK l).drop 0).take ((xK l).length* 1)=xK l:=by rw[Q2,Nat.mul_one,List.take_length]
   rw[this]
   simp only[tq,uq,DW];rfl
theorem Dj (h : H) (hf : h.floor ≤ h.next) (t : ByteArray) (most : Int) (hs : t.size < 1125899906842624) : aQ AP.A 7 [.str t, I most] h = some (Pt (xB t most), h) := by
 unfold xB
 by_cases c1:most<0
 · rw[if_pos (.inl c1)]
   refine tC (fn:=AP.f7) (h2:=h.dG) (e:=[(4,.str ⟨#[]⟩),(5,I 0),(6,I 700)]) rfl rfl rfl ?_ rfl rfl
   simp only[I]at *
   simp only[AP.f7,go_sem,QN c1]
 by_cases c2:8192<most
 · rw[if_pos (.inr c2)]
   refine tC (fn:=AP.f7) (h2:=h.dG) (e:=[(4,.str ⟨#[]⟩),(5,I 0),(6,I 700)]) rfl rfl rfl ?_ rfl rfl
   simp only[I]at *
   simp only[AP.f7,go_sem,QL c1,QN c2]
 rw[if_neg (by omega)]
 obtain⟨h1,hh1⟩:∃g,g=h.dG.alloc [.str t,I 0]:=⟨_,rfl⟩
 obtain⟨h2,hh2⟩:∃g,g=h1.alloc [.aC h.next 0,.aO,I most,I 0]:=⟨_,rfl⟩
 have of1:=Pw h.dG t
 rw[←hh1]at of1
 have n1:h1.next=h.next+1:=by rw[hh1];simp
 have st:St ⟨h.next+1,h.next,t,most⟩ ⟨0,[],0⟩ h2 .aO:=by
  refine⟨?_, ?_,.inl ⟨rfl,rfl⟩,by simp, ?_, ?_,by simp [AV.id?],by simp [AV.id?], ?_,hs,by simp,by simp;omega,by show most≤900000;omega⟩
  · rw[hh2,H.aV,if_pos n1.symm]
  · rw[hh2,H.aV,if_neg (by show h.next≠h1.next;omega),hh1,H.aV,if_pos (show h.next=h.dG.next from rfl)];rfl
  · rw[hh2,hh1];simp
  · rw[hh2,hh1];simp
  · rw[hh2,hh1];simp;omega
 obtain⟨e',h3,ov,S,q1,q2,q3,q4,q5⟩:=Fe (8* t.size+1) ⟨0,[],0⟩ h2 .aO st rfl (by show 8* t.size<0+(8* t.size+1);omega)
 have gs:=q3.gs
 have bx:∀e:Env,look e 18=.agg [.aC h.next 0,.aO,.int .i64 most,.int .i64 0]→aX e (.box 4 (.t 18))=some ([.aC h.next 0,.aO,.int .i64 most,.int .i64 0],fun i=>.aC i 0):=by
  intro e q;simp only[aX,rK,q];rfl
 have fl:dH [.b9,.aO,.int .i64 0,.int .i64 0] [(0,1,.aC h.next 0),(2,1,.int .i64 most)]=some [.aC h.next 0,.aO,.int .i64 most,.int .i64 0]:=rfl
 have hn:h.dG.next=h.next:=rfl
 dsimp only at q5
 cases hi:yA t most (8* t.size+1) 0 []with
 | error k =>
   rw[hi]at q5
   have c3:(S.e !=0)=true:=tL (by rw[q5.1];exact q5.2)
   have hk:S.e=k:=q5.1
   refine tC (fn:=AP.f7) (h2:=h3) (e:=[(4,.str ⟨#[]⟩),(5,I 0),(6,I k)]) rfl rfl rfl ?_ rfl rfl
   simp only[I]at *
   simp only[AP.f7,go_sem,QL c1,QL c2,of1,hn,QQ,Rl,fl]
   rw[bx _ rfl]
   rw[hk]at gs c3
   simp only[go_sem,←hh2,n1,rI,q1,q2,gs,c3]
 | ok z =>
   obtain⟨p,o⟩:=z
   rw[hi]at q5
   simp only[Fin]at q5
   have c3:(S.e !=0)=false:=tK (by rw[q5])
   obtain⟨h4,a1,a2,a3⟩:=q3.align
   have gs4:=a2.gs
   have gr4:=a2.gr
   have at4:=Pl h4 h.next t _ gr4
   have hb:=JS a2.own
   subst q5
   dsimp only at gs4 gr4 at4 hb a2 gs c3
   have hle:=a2.xW
   dsimp only at hle
   have qd:bh .quo (.int .i64 (((p+7)/8* 8:Nat):Int)) (.int .i64 8)=some (.int .i64 (((p+7)/8:Nat):Int)):=by
    rw[rq _ _ _ (by omega),show(8:Int)=((8:Nat):Int)from rfl,yj,Nat.mul_div_cancel _ (by omega),uY (by omega)]
   refine tC (fn:=AP.f7) (h2:=h4) (e:=[(4,.str (bytesOf o)),(5,I ((p+7)/8:Nat)),(6,I 0)]) rfl rfl rfl ?_ rfl rfl
   generalize (p+7)/8* 8=P8 at *
   generalize (p+7)/8=P at *
   simp only[I]at *
   simp only[AP.f7,go_sem,QL c1,QL c2,of1,hn,QQ,Rl,fl]
   rw[bx _ rfl]
   simp only[go_sem,←hh2,n1,rI,q1,q2,gs,c3,a1]
   rw[Ii (e':=[(6,.int .i64 0),(5,.int .i64 P),(4,.str (bytesOf o)),(55,.int .i64 P),(54,.int .i64 P8),(53,.aC h.next 0),(52,.aC (h.next+1) 0),(51,.aC (h.next+1) 0),(50,.aC (h.next+1) 0),(49,.str (bytesOf o)),(48,ov),(47,.aC (h.next+1) 1),(46,.aC (h.next+1) 0),(45,.aC (h.next+1) 0),(7,.aC (h.next+1) 0)]) (h':=h4) (gs:=[h4,h4])]
   · simp only[go_sem]
   · simp only[Au,Eh,D6,Eo,En,bR.aN,go_sem,gs4,hb,at4,qd]
   · refine AZ (fun k hk=> ?_) (AZ (fun k hk=> ?_) rfl)
     · obtain rfl:k=1:=by simpa using hk
       refine AY (o:=⟨some 48,.load false 1 (.t 47),none⟩) (g:=h4) (h':=h4) (d:=48) (u:=ov) rfl rfl rfl rfl ?_ ?_
       · simp only[ai,go_sem,gs4]
       · simp only[go_sem]
         rcases a2.own with ⟨rfl,_⟩|⟨id,rfl,_⟩
         · rfl
         · exact BI _ _ _ _
     · obtain rfl:k=1:=by simpa using hk
       refine AY (o:=⟨some 49,.kh (.t 48),none⟩) (g:=h4) (h':=h4) (d:=49) (u:=.str (bytesOf o)) rfl rfl rfl rfl ?_ ?_
       · simp only[ai,go_sem,hb]
       · simp only[go_sem,Bx]
theorem KG (h:H) (n:Int):aQ AP.A 9 [I n] h=some (I n,h):=by
 refine tC (fn:=AP.f9) (h2:=h.dG) (e:=[(2,I n)]) rfl rfl rfl ?_ rfl rfl
 simp only[I]at *
 simp only[AP.f9,go_sem]
theorem Iv {a b:Nat} (ha:a<256) (hb:b<256):bits .or .u8 (a:Int) (b:Int)=((a|||b:Nat):Int):=by
 have h3:a|||b<2^8:=Nat.or_lt_two_pow (by simpa using ha) (by simpa using hb)
 show IntKind.wrap .u8 (((BitVec.ofInt 8 (a:Int)|||BitVec.ofInt 8 (b:Int)).toNat:Nat):Int)=_
 rw[BitVec.toNat_or,xz 8 a (by omega),xz 8 b (by omega)]
 exact wrap_u8 (by simpa using h3)
def vL (out:List Nat) (i:Nat) (b:Nat):List Nat:=
 let o:=if i%8=0 then out++[0]else out
 o.set (i/8) (o.getD (i/8) 0|||b* 2^(i%8))
def wy:List Nat→Nat→List Nat→List Nat
 |[],_,out=>out
 |b::r,i,out=>wy r (i+1) (vL out i b)
theorem Bi {out:List Nat} {i b:Nat} (h:out.length=(i+7)/8):(vL out i b).length=(i+1+7)/8:=by
 unfold vL
 dsimp only
 rw[Q3]
 split
 · rw[uS,h];simp;omega
 · rw[h];omega
theorem Bh {out:List Nat} {i b:Nat} (hb:b≤1) (h:JL out):JL (vL out i b):=by
 have h1:JL (if i%8=0 then out++[0]else out):=by
  split
  · intro x hx
    rcases Q7.1 hx with q|q
    · exact h x q
    · simp at q;omega
  · exact h
 intro x hx
 unfold vL at hx
 dsimp only at hx
 rcases Rc hx with q|q
 · exact h1 x q
 · subst q
   have h2:(if i%8=0 then out++[0]else out).getD (i/8) 0<2^8:=by
    rw[QH]
    cases hg:(if i%8=0 then out++[0]else out)[i/8]? with
    |none=>simp
    |some y=>simpa using h1 y (uC hg)
   have h3:b* 2^(i%8)<2^8:=by
    have:2^(i%8)≤2^7:=QZ (by omega) (by omega)
    have:b* 2^(i%8)≤1* 2^7:=Nat.mul_le_mul hb this
    omega
   simpa using Nat.or_lt_two_pow h2 h3
theorem mX.set {h:H} {v:AV} {cs:List AV} (o:mX h v cs) {i:Nat} (hi:i<cs.length) (x:AV):∃id,v=.aD id 0 cs.length 1∧h.get id=some cs∧h.floor≤id∧mX (h.set id (cs.set i x)) v (cs.set i x):=by
 rcases o with ⟨rfl,rfl⟩|⟨id,rfl,h1,h2,h3⟩
 · simp at hi
 · exact⟨id,rfl,h1,h2,.inr ⟨id,by simp,by rw[H.dd,if_pos rfl,h1];rfl,by simpa using h2,by intro e;apply h3;have:=Rj List.length e;simpa using this⟩⟩
structure P4 (a t:ByteArray):Prop where
 sz:a.size≤t.size
 bit:∀i,i<8* a.size→wE a i=wE t i
section
variable {a t:ByteArray} (h:P4 a t)
include h
end
variable {t:ByteArray} {most most':Int}
theorem vP (l:List Nat):(bytesOf l).size=l.length:=by
 show(l.map UInt8.ofNat).toArray.size=_
 simp
structure FC where
 f:Nat
 text:ByteArray
 most:Int
structure Ft (c:FC) (S:SS) (h:H) (ov:AV):Prop where
 gf:h.get c.f=some [.str c.text,I S.at_,ov,I c.most,I S.e]
 own:mX h ov (xK S.out)
 ff:h.floor≤c.f
 of:ov.id?≠some c.f
 nx:h.floor≤h.next
 sz:c.text.size<1125899906842624
 xW:S.at_≤8* c.text.size
 ol:(S.out.length:Int)≤c.most
 ml:c.most≤900000
structure FF (c:FC) (h:H) (ov:AV) (h':H) (ov':AV):Prop where
 fl:h'.floor=h.floor
 nx:h.next≤h'.next
 F6:∀id,id<h.next→id≠c.f→ov.id?≠some id→h'.get id=h.get id
 nb:∀i,ov'.id?=some i→ov.id?=some i∨h.next≤i
theorem FF.refl (c:FC) (h:H) (ov:AV):FF c h ov h ov:=⟨rfl,uw _,fun _ _ _ _=>rfl,fun _ q=>.inl q⟩
theorem FF.trans {c:FC} {h1 h2 h3:H} {o1 o2 o3:AV} (a:FF c h1 o1 h2 o2) (b:FF c h2 o2 h3 o3):FF c h1 o1 h3 o3:=by
 refine⟨b.fl.trans a.fl,uQ a.nx b.nx,fun id h4 h5 h7=> ?_,fun i hi=> ?_⟩
 · rw[b.F6 id (Nat.lt_of_lt_of_le h4 a.nx) h5 (fun q=> ?_),a.F6 id h4 h5 h7]
   rcases a.nb id q with q|q
   · exact h7 q
   · omega
 · rcases b.nb i hi with q|q
   · exact a.nb i q
   · exact .inr (uQ a.nx q)
theorem Ft.vG {c:FC} {S:SS} {h h':H} {ov:AV} (st:Ft c S h ov) (hf:h'.floor=h.floor) (hn:h.next≤h'.next) (hg:∀i,i=c.f∨ov.id?=some i→h'.get i=h.get i):Ft c S h' ov:=
 ⟨by rw[hg _ (.inl rfl)];exact st.gf,st.own.mono hf fun i hi=>hg i (.inr hi),by rw[hf];exact st.ff,st.of,by rw[hf];exact uQ st.nx hn,st.sz,st.xW,st.ol,st.ml⟩
theorem Ft.lt {c:FC} {S:SS} {h:H} {ov:AV} (st:Ft c S h ov) {i:Nat} (hi:i=c.f∨ov.id?=some i):i<h.next:=by
 rcases hi with rfl|hi
 · exact h.lt _ _ st.gf
 · exact st.own.lt hi
theorem Ft.alloc {c:FC} {S:SS} {h:H} {ov:AV} (st:Ft c S h ov) (cs:List AV):Ft c S (h.alloc cs) ov∧FF c h ov (h.alloc cs) ov:=by
 refine⟨st.vG (by simp) (by simp) fun i hi=> ?_,⟨by simp,by simp,fun id h1 _ _=> ?_,fun _ q=>.inl q⟩⟩
 · have:=st.lt hi;rw[H.aV,if_neg (by omega)]
 · rw[H.aV,if_neg (by omega)]
structure QD (h0 h:H) (b:Nat) (D:Nat→AV) (k:Nat) (p S0:List Int):Prop where
 get:h.get b=some (mY 17 D)
 fl:h.floor=h0.next
 fb:h0.next≤b
 nx:h.floor≤h.next
 low:∀id,id<h0.next→h.get id=h0.get id
 ck:D k=I (wk p k)
 own:mX h (D 16) (ints (S0++syms p k))
 nb:(D 16).id?≠some b
theorem JZ (n:Nat):wk [] n=0:=by unfold wk;split<;>rfl
theorem zk {h:H} {v:AV} {l:List Int} {fl:Nat} (o:mX h v (ints l)) (hf:fl≤h.floor) (hl:l≠[]):snap h.get fl 16 true v=some (vN l):=by
 rcases o with ⟨_,q⟩|⟨id,rfl,q,h2,_⟩
 · exact absurd (List.map_eq_nil_iff.1 q) hl
 · unfold snap
   rw[if_neg (by omega),q,uq,if_pos (by omega)]
   rw[Q2,Nat.mul_one,List.take_length,wX]
   simp [vN]
theorem Ci (p:List Int) (x:Int):∀n:Nat,vj (p++[x]) n=vj p n-(if 1≤x∧x≤n then 2^(n-x.toNat)else 0)
 | 0 => by
   rw[if_neg (by omega)];simp [vj]
 | n + 1 => by
   have e1:vj (p++[x]) (n+1)=vj (p++[x]) n* 2-wk (p++[x]) (n+1):=rfl
   have e2:vj p (n+1)=vj p n* 2-wk p (n+1):=rfl
   rw[e1,e2,Ci p x n,yM]
   by_cases h1:x=((n+1:Nat):Int)
   · rw[if_neg (by omega),if_pos ⟨by omega,h1⟩,if_pos (by omega)]
     rw[show n+1-x.toNat=0 by omega];simp;omega
   · rw[if_neg (show¬(n+1≠0∧x=((n+1:Nat):Int))from fun q=>h1 q.2)]
     by_cases h2:1≤x∧x≤(n:Int)
     · rw[if_pos h2,if_pos (by omega),show n+1-x.toNat=(n-x.toNat)+1 by omega,Int.pow_succ];omega
     · rw[if_neg h2,if_neg (by omega)];omega
def AB (l:List Nat) (i j:Nat):List Nat:=(l.set i (l.getD j 0)).set j (l.getD i 0)
theorem xn (l:List Nat) (i j:Nat):(AB l i j).length=l.length:=by simp [AB]
theorem Ez {l:List Nat} {i j k:Nat} (hi:i<l.length) (hj:j<l.length):(AB l i j).getD k 0=if k=j then l.getD i 0 else if k=i then l.getD j 0 else l.getD k 0:=by
 unfold AB
 simp only[QH,QW,Q3]
 by_cases a:j=k
 · subst a;simp [hj]
 · by_cases b:i=k
   · subst b;simp [hi,a,Ne.symm a]
   · simp [a,b,Ne.symm a,Ne.symm b]
theorem yh {l:List Nat} {i j:Nat} (hi:i<l.length) (hj:j<l.length):(AB l i j).Perm l:=by
 rw[List.perm_iff_count]
 intro a
 unfold AB
 have e1:l.getD i 0=l[i]:=by rw[QH,QJ hi];rfl
 have e2:l.getD j 0=l[j]:=by rw[QH,QJ hj];rfl
 rw[e1,e2,List.count_set (by simpa using hj),List.count_set hi]
 have e3:(l.set i l[j])[j]'(by simpa using hj)=l[j]:=by
  rw[List.getElem_set];split
  · rfl
  · rfl
 rw[e3]
 have c1:l[i]==a→1≤l.count a:=fun h=>List.count_pos_iff.2 (by rw[←eq_of_beq h];exact QY hi)
 by_cases p:(l[i]==a)=true
 · have:=c1 p
   by_cases q:(l[j]==a)=true
   · simp only[p,q,if_true];omega
   · simp only[p,q,if_true];simp;omega
 · by_cases q:(l[j]==a)=true
   · simp only[p,q,if_true];simp
   · simp only[p,q];simp
section
variable (ky:Nat→Int)
def P3 (lo n ex:Nat) (l:List Nat):Prop:=(∀c,0<c→c<n→lo≤(c-1)/2→(c-1)/2≠ex→ky (l.getD ((c-1)/2) 0)≤ky (l.getD c 0))∧
 (∀c,0<c→c<n→(c-1)/2=ex→0<ex→lo≤(ex-1)/2→ky (l.getD ((ex-1)/2) 0)≤ky (l.getD c 0))
def F8 (lo n:Nat) (l:List Nat):Prop:=∀c,0<c→c<n→lo≤(c-1)/2→ky (l.getD ((c-1)/2) 0)≤ky (l.getD c 0)
def CT (n i:Nat) (l:List Nat):Nat:=if 2* i+2<n∧ky (l.getD (2* i+2) 0)<ky (l.getD (2* i+1) 0)then 2* i+2 else 2* i+1
def sink (n:Nat):Nat→Nat→List Nat→List Nat
 |0,_,l=>l
 |f+1,i,l=>if n≤2* i+1 then l else if ky (l.getD (CT ky n i l) 0)<ky (l.getD i 0)then sink n f (CT ky n i l) (AB l i (CT ky n i l))else l
def Cz:Nat→Nat→List Nat→List Nat
 |0,_,l=>l
 |f+1,j,l=>if j=0 then l else if ky (l.getD j 0)<ky (l.getD ((j-1)/2) 0)then Cz f ((j-1)/2) (AB l ((j-1)/2) j)else l
variable {ky}
theorem BC {n i:Nat} {l:List Nat} (h:2* i+1<n):(CT ky n i l=2* i+1∨CT ky n i l=2* i+2)∧CT ky n i l<n:=by
 unfold CT;split
 · rename_i c;exact⟨.inr rfl,c.1⟩
 · exact⟨.inl rfl,h⟩
theorem HO {n i:Nat} {l:List Nat} (h:2* i+1<n) {c:Nat} (h0:0<c) (hc:c<n) (hp:(c-1)/2=i):ky (l.getD (CT ky n i l) 0)≤ky (l.getD c 0):=by
 have:c=2* i+1∨c=2* i+2:=by omega
 unfold CT;split
 · rename_i q
   rcases this with rfl|rfl
   · exact Int.le_of_lt q.2
   · exact Ri _
 · rename_i q
   rcases this with rfl|rfl
   · exact Ri _
   · by_cases z:ky (l.getD (2* i+2) 0)<ky (l.getD (2* i+1) 0)
     · exact absurd ⟨hc,z⟩ q
     · omega
theorem Ev {lo n : Nat} : ∀ (f i : Nat) (l : List Nat), n ≤ i + f → lo ≤ i → n ≤ l.length → P3 ky lo n i l → F8 ky lo n (sink ky n f i l) ∧ (sink ky n f i l).Perm l ∧ (∀ k, n ≤ k → (sink ky n f i l).getD k 0 = l.getD k 0)
 | 0, i, l, hf, hlo, hl, hx => by
   refine⟨fun c h0 hc hp=>hx.1 c h0 hc hp (by omega),Rh _,fun _ _=>rfl⟩
 | f + 1, i, l, hf, hlo, hl, hx => by
   rw[sink]
   by_cases c0:n≤2* i+1
   · rw[if_pos c0]
     exact⟨fun c h0 hc hp=>hx.1 c h0 hc hp (by omega),Rh _,fun _ _=>rfl⟩
   · rw [if_neg c0]
     obtain⟨kr,kn⟩:=BC (ky:=ky) (n:=n) (i:=i) (l:=l) (by omega)
     have kl:∀c,0<c→c<n→(c-1)/2=i→ky (l.getD (CT ky n i l) 0)≤ky (l.getD c 0):=fun c h0 hc hp=>HO (by omega) h0 hc hp
     generalize CT ky n i l=j at kr kn kl ⊢
     by_cases c1:ky (l.getD j 0)<ky (l.getD i 0)
     · rw [if_pos c1]
       have g:∀k,(AB l i j).getD k 0=if k=j then l.getD i 0 else if k=i then l.getD j 0 else l.getD k 0:=fun k=>Ez (by omega) (by omega)
       have ji:i<j:=by omega
       have jp:(j-1)/2=i:=by omega
       obtain ⟨a1, a2, a3⟩ := Ev (lo := lo) (n := n) f j (AB l i j) (by omega) (by omega) (by rw [xn]; exact hl) ⟨by
        intro c h0 hc hp hne
        rw[g,g]
        by_cases e1:c=j
        · subst e1
          rw[if_neg (by omega),if_pos jp,if_pos rfl];omega
        · rw [if_neg hne, if_neg e1]
          by_cases e2:(c-1)/2=i
          · rw[if_pos e2,if_neg (by omega)];exact kl c h0 hc e2
          · rw[if_neg e2]
            by_cases e3:c=i
            · subst e3
              rw[if_pos rfl]
              exact hx.2 j (by omega) kn jp h0 hp
            · rw[if_neg e3];exact hx.1 c h0 hc hp e2,by
        intro c h0 hc hp hj0 hlp
        rw[g,g,if_neg (by omega),if_pos jp,if_neg (by omega),if_neg (by omega)]
        have:=hx.1 c h0 hc (by omega) (by omega)
        rwa [hp]at this⟩
       refine⟨a1,a2.trans (yh (by omega) (by omega)),fun k hk=> ?_⟩
       rw[a3 k hk,g,if_neg (by omega),if_neg (by omega)]
     · rw[if_neg c1]
       refine⟨fun c h0 hc hp=> ?_,Rh _,fun _ _=>rfl⟩
       by_cases e:(c-1)/2=i
       · have:=kl c h0 hc e
         rw[e];omega
       · exact hx.1 c h0 hc hp e
theorem Az {n:Nat}:∀(f i:Nat) (l:List Nat),(sink ky n f i l).length=l.length
 |0,_,_=>rfl
 | f + 1, i, l => by
   rw[sink]
   split
   · rfl
   · split
     · rw[Az f,xn]
     · rfl
theorem DL {n:Nat}:∀{f i:Nat} {l:List Nat},n≤l.length→(sink ky n f i l).Perm l
 |0,_,_,_=>Rh _
 | f + 1, i, l, hl => by
   rw[sink]
   split
   · exact Rh _
   · rename_i c
     obtain⟨kr,kn⟩:=BC (ky:=ky) (n:=n) (i:=i) (l:=l) (by omega)
     split
     · exact(DL (by rw[xn];exact hl)).trans (yh (by omega) (by omega))
     · exact Rh _
def PZ (n j:Nat) (l:List Nat):Prop:=(∀c,0<c→c<n→c≠j→ky (l.getD ((c-1)/2) 0)≤ky (l.getD c 0))∧
 (∀c,0<c→c<n→(c-1)/2=j→0<j→ky (l.getD ((j-1)/2) 0)≤ky (l.getD c 0))
theorem Hh {n : Nat} : ∀ (f j : Nat) (l : List Nat), j ≤ f → j < n → n ≤ l.length → PZ (ky := ky) n j l → F8 ky 0 n (Cz ky f j l) ∧ (Cz ky f j l).Perm l
 |0,j,l,hf,hj,hl,hx=>⟨fun c h0 hc _=>hx.1 c h0 hc (by omega),Rh _⟩
 | f + 1, j, l, hf, hj, hl, hx => by
   rw[Cz]
   by_cases c0:j=0
   · rw[if_pos c0];exact⟨fun c h0 hc _=>hx.1 c h0 hc (by omega),Rh _⟩
   · rw [if_neg c0]
     by_cases c1:ky (l.getD j 0)<ky (l.getD ((j-1)/2) 0)
     · rw [if_pos c1]
       obtain⟨p,hp⟩:∃p,p=(j-1)/2:=⟨_,rfl⟩
       rw[←hp]at c1 ⊢
       have g:∀k,(AB l p j).getD k 0=if k=j then l.getD p 0 else if k=p then l.getD j 0 else l.getD k 0:=fun k=>Ez (by omega) (by omega)
       obtain⟨a1,a2⟩:=Hh (n:=n) f p (AB l p j) (by omega) (by omega) (by rw[xn];exact hl) ⟨by
        intro c h0 hc hne
        rw[g,g]
        by_cases e1:c=j
        · subst e1
          rw[if_pos rfl,←hp,if_neg (by omega),if_pos rfl];omega
        · rw[if_neg e1,if_neg hne]
          have h1:=hx.1 c h0 hc e1
          by_cases e2:(c-1)/2=j
          · rw[if_pos e2]
            have:=hx.2 c h0 hc e2 (by omega)
            rwa [←hp]at this
          · rw[if_neg e2]
            by_cases e3:(c-1)/2=p
            · rw[if_pos e3];rw[e3]at h1;omega
            · rw[if_neg e3];exact h1,by
        intro c h0 hc hcp hp0
        rw[g,g,if_neg (by omega),if_neg (by omega)]
        have h1:=hx.1 p (by omega) (by omega) (by omega)
        by_cases e1:c=j
        · rw[if_pos e1];exact h1
        · rw[if_neg e1,if_neg (by omega)]
          have:=hx.1 c h0 hc e1
          rw[hcp]at this;omega⟩
       exact⟨a1,a2.trans (yh (by omega) (by omega))⟩
     · rw[if_neg c1]
       refine⟨fun c h0 hc _=> ?_,Rh _⟩
       by_cases e:c=j
       · subst e;omega
       · exact hx.1 c h0 hc e
theorem FM:∀(f j:Nat) (l:List Nat),(Cz ky f j l).length=l.length
 |0,_,_=>rfl
 | f + 1, j, l => by
   rw[Cz]
   split
   · rfl
   · split
     · rw[FM f,xn]
     · rfl
theorem IU {n:Nat} {l:List Nat} (h:F8 ky 0 n l):∀k,k<n→ky (l.getD 0 0)≤ky (l.getD k 0):=by
 intro k
 induction k using Nat.strongRecOn with
 | ind k ih =>
   intro hk
   by_cases c:k=0
   · subst c;exact Ri _
   · have h1:=ih ((k-1)/2) (by omega) (by omega)
     have h2:=h k (by omega) hk (by omega)
     omega
def yQ (n:Nat):Nat→List Nat→List Nat
 |0,l=>l
 |i+1,l=>yQ n i (sink ky n n i l)
theorem Fh {n:Nat}:∀(i:Nat) (l:List Nat),n≤l.length→F8 ky i n l→F8 ky 0 n (yQ (ky:=ky) n i l)∧(yQ (ky:=ky) n i l).Perm l
 |0,l,hl,h=>⟨h,Rh _⟩
 | i + 1, l, hl, h => by
   obtain⟨a1,a2,a3⟩:=Ev (ky:=ky) (lo:=i) (n:=n) n i l (by omega) (uw _) hl ⟨fun c h0 hc hp hne=>h c h0 hc (by omega),fun c h0 hc hp h1 h2=>by omega⟩
   obtain⟨b1,b2⟩:=Fh i (sink ky n n i l) (by rw[Az];exact hl) a1
   exact⟨b1,b2.trans a2⟩
end
theorem dt {p:Prop} [Decidable p] (h:p):decide p=true:=QN h
theorem df {p:Prop} [Decidable p] (h:¬p):decide p=false:=QL h
theorem PC {a b:Int} (h:a=b):(a==b)=true:=by simp [h]
theorem PB {a b:Int} (h:¬a=b):(a==b)=false:=by simp [h]
theorem PH {a b:Int} (h:¬a=b):(a !=b)=true:=by simp [h]
theorem PG {a b:Int} (h:a=b):(a !=b)=false:=by simp [h]
theorem wi {n:Int} (h: -9223372036854775808≤n∧n<9223372036854775808):IntKind.wrap .i64 n=n:=s9 h.1 (by omega)
theorem wb {n:Int} (h:0≤n∧n<256):IntKind.wrap .u8 n=n:=by
 simp [IntKind.wrap,IntKind.bits,IntKind.signed];omega
theorem NI {i:Int} {n:Nat} (h:0≤i∧i<n):cG (.int .i64 i) n=some i.toNat:=by
 simp [cG,ni,h]
def at_:Nat→aF→aF
 |0,.seq a _=>a
 |0,c=>c
 |n+1,.seq _ b=>at_ n b
 |_+1,c=>c
def KX:Nat→aF→aF
 |0,c=>c
 |n+1,.seq _ b=>KX n b
 |_+1,c=>c
theorem Gd (a b:aF):at_ 0 (.seq a b)=a:=rfl
theorem Hy (n:Nat) (a b:aF):at_ (n+1) (.seq a b)=at_ n b:=rfl
theorem Ny (c:aF):KX 0 c=c:=rfl
theorem Nx (n:Nat) (a b:aF):KX (n+1) (.seq a b)=KX n b:=rfl
theorem Ad {h:H} {id i:Nat} (e:¬i=id):(h.del id).get i=h.get i:=by rw[H.dJ,if_neg e]
theorem At (h:H):h.dG.next=h.next:=uj rfl rfl
theorem Ag (h:H):h.dG.floor=h.next:=uj rfl rfl
theorem Ai (h:H) (i:Nat):h.dG.get i=h.get i:=uj rfl rfl
theorem Ee (h:H) (i:Nat):(h.del i).next=h.next:=uj rfl rfl
theorem D4 (h:H) (i:Nat):(h.del i).floor=h.floor:=uj rfl rfl
theorem ve {h:H} {cs:List AV} {i:Nat} (e:i=h.next):(h.alloc cs).get i=some cs:=by rw[H.aV,if_pos e]
theorem u6 {h:H} {cs:List AV} {i:Nat} (e:¬i=h.next):(h.alloc cs).get i=h.get i:=by rw[H.aV,if_neg e]
theorem vm {h:H} {cs:List AV} {id i:Nat} (e:i=id):(h.set id cs).get i=(h.get i).map fun _=>cs:=by rw[H.dd,if_pos e,e]
theorem uW {h:H} {cs:List AV} {id i:Nat} (e:¬i=id):(h.set id cs).get i=h.get i:=by rw[H.dd,if_neg e]
def wG {α:Type} (b:Bool) (x:α):Option α:=if b then some x else none
theorem GR {α:Type} (x:α):wG true x=some x:=rfl
theorem Jx (h:H) (id off n:Nat) (v cs:List AV):tE h id off n v (some cs)=wG (decide (h.floor≤id)&&(decide (v.length=n)&&(decide (off+n≤cs.length)&&AV.aB v))) (h.set id (setFrom cs off v)):=by
 simp only[tE,uq,wG]
 by_cases c:h.floor≤id∧v.length=n∧off+n≤cs.length∧AV.aB v=true
 · rw[if_pos c];obtain⟨c1,c2,c3,c4⟩:=c;simp [c1,c2,c3,c4]
 · rw[if_neg c,if_neg];simpa using c
theorem JP (n:Nat) (cs:List AV) (off:Nat):gG true n cs off=wG (decide (off+n≤cs.length)) (.agg ((cs.drop off).take n)):=by
 simp only[gG,wG,if_true,decide_eq_true_eq]
theorem IF (z:List AV):dH z []=some z:=rfl
def E5 (r:List (Nat×Nat×AV)) (p:Option (List AV)):Option (List AV):=p.bind fun z=>dH z r
theorem GX (r:List (Nat×Nat×AV)) (z:List AV):E5 r (some z)=dH z r:=rfl
theorem IE (z:List AV) (o n:Nat) (v:AV) (r:List (Nat×Nat×AV)):dH z ((o,n,v)::r)=E5 r (wG (decide (v.cells.length=n)&&(decide (o+n≤z.length)&&AV.aB v.cells)) (setFrom z o v.cells)):=by
 simp only[dH,wG]
 by_cases c:v.cells.length=n∧o+n≤z.length∧AV.aB v.cells=true
 · rw[if_pos c];obtain⟨c1,c2,c3⟩:=c;simp [c1,c2,c3,E5]
 · rw[if_neg c,if_neg]; · rfl
   simpa using c
def EJ (p:Option (List AV)) (f:Nat→AV):Option (List AV×(Nat→AV)):=p.bind fun cs=>some (cs,f)
theorem Is (cs:List AV) (f:Nat→AV):EJ (some cs) f=some (cs,f):=rfl
theorem C5 (e:Env) (z:List AV):aX e (.alloc z)=EJ (wG (AV.aB z) z) (fun i=>.aC i 0):=by
 simp only[aX,wG];split<;>rfl
theorem GO (e:Env) (n:Nat) (x:X):aX e (.box n x)=EJ (wG (decide ((x.ev e).cells.length=n)&&AV.aB (x.ev e).cells) (x.ev e).cells) (fun i=>.aC i 0):=by
 simp only[aX,wG]
 by_cases c:(x.ev e).cells.length=n∧AV.aB (x.ev e).cells=true
 · rw[if_pos c];simp [c,EJ]
 · rw[if_neg c,if_neg]; · rfl
   simpa using c
theorem BK (e:Env) (sz len:Nat) (z:List AV) (ps:List (Nat×X)):aX e (.cw sz len z ps)=EJ (E5 (ps.map fun p=>(p.1* sz,sz,p.2.ev e)) (wG (decide (z.length=sz)&&(decide (0<sz)&&AV.aB z)) (dx len z))) (fun i=>.aD i 0 len sz):=by
 simp only[aX,wG]
 by_cases c:z.length=sz∧0<sz∧AV.aB z=true
 · rw[if_pos c];simp [c,EJ,E5]
 · rw[if_neg c,if_neg]; · rfl
   simpa using c
theorem Jm (z:List AV):dx 0 z=[]:=rfl
theorem Jl (n:Nat) (z:List AV):dx (n+1) z=z++dx n z:=rfl
def M8 (vG:List Nat) (e:Env) (h:H) (b:Bool):dk:=if b then some (.normal,ax e vG,h)else none
theorem IP (vG:List Nat) (e:Env) (h:H):M8 vG e h true=some (.normal,ax e vG,h):=rfl
def PD (c:ae) (ops:List aj) (fl:List (Nat×List Nat)) (vG:List Nat) (p:Option (Env×H×List H)):dk:=p.bind fun q=>M8 vG q.1 q.2.1 (aY c ops q.1 q.2.2 fl)
theorem Kz (c:ae) (ops:List aj) (fl:List (Nat×List Nat)) (vG:List Nat) (e:Env) (h:H) (gs:List H):PD c ops fl vG (some (e,h,gs))=M8 vG e h (aY c ops e gs fl):=rfl
theorem GM (c:ae) (l:bE) (ord:List Nat) (ops:List aj) (x:Nat×List Nat) (fl:List (Nat×List Nat)) (vG:List Nat) (e:Env) (h:H):aK c l (.iu ord ops (x::fl) vG) e h=PD c ops (x::fl) vG (aM c ops e h):=by
 rw[aK];rfl
theorem KW (c:ae) (ops:List aj) (e:Env) (gs:List H):aY c ops e gs []=true:=rfl
def Pd (c:ae) (ops:List aj) (e:Env) (gs:List H) (i:Nat) (ks:List Nat):Bool:=ks.all (bC c ops e gs i)
theorem KV (c:ae) (ops:List aj) (e:Env) (gs:List H) (i:Nat) (ks:List Nat) (r:List (Nat×List Nat)):aY c ops e gs ((i,ks)::r)=(Pd c ops e gs i ks&&aY c ops e gs r):=rfl
theorem KT (c:ae) (ops:List aj) (e:Env) (gs:List H) (i:Nat):Pd c ops e gs i []=true:=rfl
def Nt (c : ae) (e : Env) (o : Option aj) (g : Option H) : Bool := match o, g with
 | some o, some g =>
   if o.op.aH then
    match o.dst.map (look e)with
    |some (.bJ [])=>true
    | some v => (match v.id?, aX e o.op with
      |some id,some b=>(match g.get id with|some cs=>AV.fF cs b.1|none=>false)
      |_,_=>false)
    |none=>false
   else match o.dst.map (look e)with
    |some v=>(match ai c o e g with|some (u,_)=>AV.beq u v|none=>false)
    |none=>false
 |_,_=>false
theorem KS (c:ae) (ops:List aj) (e:Env) (gs:List H) (i k:Nat) (r:List Nat):Pd c ops e gs i (k::r)=(Nt c e (ops[i]?) (gs[k]?)&&Pd c ops e gs i r):=by
 unfold Pd
 rw[List.all_cons]
 congr 1
def Py (v:AV) (p:Option (AV×H)):Bool:=match p with|some (u,_)=>AV.beq u v|none=>false
theorem KU (v u:AV) (h:H):Py v (some (u,h))=AV.beq u v:=rfl
def NC (b:Bool) (x y:Bool):Bool:=if b then x else y
theorem KQ (x y:Bool):NC false x y=y:=rfl
def CX (c:ae) (e:Env) (o:Option aj) (g:Option H):Bool:=Nt c e o g
theorem KP (c:ae) (e:Env) (d:Nat) (op:bR) (g:H):Nt c e (some ⟨some d,op,none⟩) (some g)=NC op.aH (CX c e (some ⟨some d,op,none⟩) (some g)) (Py (look e d) (ah c e g op)):=by
 unfold CX Nt NC
 dsimp only
 cases op.aH<;>rfl
theorem KO (c:ae) (e:Env) (d:Nat) (op:bR) (k:Nat) (w:Bool) (g:H):Nt c e (some ⟨some d,op,some (k,w)⟩) (some g)=NC op.aH (CX c e (some ⟨some d,op,some (k,w)⟩) (some g)) (Py (look e d) (kF w c e g op (look e k))):=by
 unfold CX Nt NC
 dsimp only
 cases op.aH with
 |true=>rfl
 |false=>rw[mq];rfl
mutual
theorem beq_refl:∀a:AV,AV.beq a a=true
 | .bot=>rfl
 | .bool b=>by simp [AV.beq]
 | .int k n=>by simp [AV.beq]
 | .str s=>Bx s
 | .b9=>rfl
 | .aC i o=>by simp [AV.beq]
 | .aJ c o=>by simp [AV.beq,wC c]
 | .aO=>rfl
 | .aD i o l z=>by simp [AV.beq]
 | .aU t c o l z=>by simp [AV.beq,wC c]
 | .fn f a b=>by simp [AV.beq,wC a,wC b]
 | .eF=>rfl
 | .iface t v=>by simp [AV.beq,beq_refl v]
 | .eG=>rfl
 | .agg c=>by simp [AV.beq,wC c]
 | .bJ c=>by simp [AV.beq,wC c]
theorem wC:∀l:List AV,AV.fF l l=true
 |[]=>rfl
 |a::l=>by simp [AV.fF,beq_refl a,wC l]
end
theorem KR (x y:Bool):NC true x y=x:=rfl
def NL (c:Option (List AV)) (d:List AV):Bool:=match c with|some cs=>AV.fF cs d|none=>false
theorem Kx (c d:List AV):NL (some c) d=AV.fF c d:=rfl
def Ew (v : AV) (b : Option (List AV × (Nat → AV))) (g : H) : Bool := match v with
 | .bJ []=>true
 | v => match v.id?, b with
   |some id,some b=>NL (g.get id) b.1
   |_,_=>false
theorem Jw (b:Option (List AV×(Nat→AV))) (g:H):Ew (.bJ []) b g=true:=rfl
theorem Jv (i o:Nat) (cs:List AV) (f:Nat→AV) (g:H):Ew (.aC i o) (some (cs,f)) g=NL (g.get i) cs:=rfl
theorem Ju (i o l z:Nat) (cs:List AV) (f:Nat→AV) (g:H):Ew (.aD i o l z) (some (cs,f)) g=NL (g.get i) cs:=rfl
theorem BE {c : ae} {e : Env} {d : Nat} {op : bR} {gd : Option (Nat × Bool)} {g : H} (hb : op.aH = true) : CX c e (some ⟨some d, op, gd⟩) (some g) = Ew (look e d) (aX e op) g := by
 unfold CX Nt
 dsimp only
 rw[hb,if_pos rfl]
 show (match some (look e d) with
  |some (.bJ [])=>true
  | some v => (match v.id?, aX e op with
    |some id,some b=>(match g.get id with|some cs=>AV.fF cs b.1|none=>false)
    |_,_=>false)
  |none=>false)=_
 generalize look e d=v
 unfold Ew NL
 cases v with
 |bJ vs=>cases vs<;>rfl
 |_=>cases aX e op<;>rfl
theorem CF (c:ae) (e:Env) (d:Nat) (z:List AV) (gd:Option (Nat×Bool)) (g:H):CX c e (some ⟨some d,.alloc z,gd⟩) (some g)=Ew (look e d) (aX e (.alloc z)) g:=BE rfl
theorem FQ (c:ae) (e:Env) (d n:Nat) (x:X) (gd:Option (Nat×Bool)) (g:H):CX c e (some ⟨some d,.box n x,gd⟩) (some g)=Ew (look e d) (aX e (.box n x)) g:=BE rfl
theorem Bp (c:ae) (e:Env) (d n m:Nat) (z:List AV) (ps:List (Nat×X)) (gd:Option (Nat×Bool)) (g:H):CX c e (some ⟨some d,.cw n m z ps,gd⟩) (some g)=Ew (look e d) (aX e (.cw n m z ps)) g:=BE rfl
theorem DM (c:ae) (e:Env) (d n m:Nat) (z:List AV) (x y:X) (gd:Option (Nat×Bool)) (g:H):CX c e (some ⟨some d,.iy n m z x y,gd⟩) (some g)=Ew (look e d) (aX e (.iy n m z x y)) g:=BE rfl
theorem EF (b:Bool):AV.beq (.bool b) (.bool b)=true:=by simp [AV.beq]
theorem EI:AV.beq (.bJ []) (.bJ [])=true:=rfl
theorem EG:AV.beq .aO .aO=true:=rfl
theorem C4:AV.beq .b9 .b9=true:=rfl
theorem IX (sz id off len:Nat) (i:AV):fC sz (.aD id off len sz) i=tO id off sz (cG i len):=by simp [fC,tO]
theorem IW (t:Bool) (cells:List AV) (sz off len:Nat) (i:AV):fC sz (.aU t cells off len sz) i=tP cells off sz (cG i len):=by simp [fC,tP]
def yE (n:Nat) (z:List AV):List AV:=dx n z
def KF (sz bytes:Nat) (zero:List AV) (l c:AV):Option (List AV×(Nat→AV)):=
 match l,c with
 | .int .i64 l,.int .i64 c=>EJ (wG (decide (0≤l)&&(decide (l≤c)&&(decide (c≤9223372036854775807)&&(decide ((bytes:Int)* c≤281474976710656)&&(decide (zero.length=sz)&&(decide (0<sz)&&AV.aB zero)))))) (yE c.toNat zero)) (fun i=>.aD i 0 l.toNat sz)
 |_,_=>none
theorem Ed (sz bytes:Nat) (zero:List AV) (l c:Int):KF sz bytes zero (.int .i64 l) (.int .i64 c)=EJ (wG (decide (0≤l)&&(decide (l≤c)&&(decide (c≤9223372036854775807)&&(decide ((bytes:Int)* c≤281474976710656)&&(decide (zero.length=sz)&&(decide (0<sz)&&AV.aB zero)))))) (yE c.toNat zero)) (fun i=>.aD i 0 l.toNat sz):=rfl
theorem EK (e : Env) (sz bytes : Nat) (zero : List AV) (l c : X) : aX e (.iy sz bytes zero l c) = KF sz bytes zero (l.ev e) (c.ev e) := by
 simp only[aX]
 cases l.ev e with
 | int k l => cases k <;> cases c.ev e with
   | int k2 c => cases k2 <;> first
     |rfl
     | (simp only [Ed, wG]
        by_cases q:0≤l∧l≤c∧c≤9223372036854775807∧(bytes:Int)* c≤281474976710656∧zero.length=sz∧0<sz∧AV.aB zero=true
        · rw[if_pos q];obtain⟨q1,q2,q3,q4,q5,q6,q7⟩:=q
          rw[if_pos]
          · rfl
          · simp [q1,q2,q3,q4,q5,q6,q7]
        · rw[if_neg q,if_neg]
          · rfl
          · simpa using q)
   |_=>rfl
 |_=>cases c.ev e<;>rfl
theorem yK (i o l z:Nat):iH false (.aD i o l z)=some (.int .i64 l):=rfl
theorem DU:iH false .aO=some (.int .i64 0):=rfl
theorem Ga (t:Bool) (c:List AV) (o l z:Nat):iH false (.aU t c o l z)=some (.int .i64 l):=rfl
theorem vS (s:ByteArray):iH true (.str s)=some (.int .i64 s.size):=rfl
theorem JF (a b:Nat):((a:Int)+(b:Int)).toNat=a+b:=by omega
theorem GF (a:Nat):((a:Int)).toNat=a:=by omega
def wO (s:ByteArray) (i:Nat):Nat:=((s[i]?).map (·.toNat)).getD 0
theorem zw (s:ByteArray) (i:Nat):wO s i<256:=by
 unfold wO
 cases s[i]? with
 |none=>simp
 |some b=>simp;exact b.toNat_lt
theorem yz {s:ByteArray} {i:Int} (h:0≤i∧i<s.size):lH (.str s) (.int .i64 i)=some (.int .u8 (wO s i.toNat:Nat)):=by
 have hi:i.toNat<s.size:=by omega
 simp [lH,NI h,wO,hi]
def AX {α:Type} (b:Bool) (x y:Option α):Option α:=if b then x else y
theorem Jp {α:Type} (x y:Option α):AX true x y=x:=rfl
theorem Jo {α:Type} (x y:Option α):AX false x y=y:=rfl
def Ns (n o k:Nat) (p:Option (List AV)):Option (Nat×List AV):=p.bind fun cs=>wG (decide (o+k* n≤cs.length)) (k,(cs.drop o).take (k* n))
theorem Jt (n o k:Nat) (cs:List AV):Ns n o k (some cs)=wG (decide (o+k* n≤cs.length)) (k,(cs.drop o).take (k* n)):=rfl
theorem KM (h:H) (n p o k:Nat):aR h n (.aD p o k n)=Ns n o k (h.get p):=by
 simp only[aR,if_true,Ns]
 cases h.get p with
 |none=>rfl
 |some cs=>simp only[uq,wG,decide_eq_true_eq]
theorem KK (h:H) (t:Bool) (n o k:Nat) (cs:List AV):aR h n (.aU t cs o k n)=wG (decide (o+k* n≤cs.length)) (k,(cs.drop o).take (k* n)):=by
 simp only[aR,if_true,wG,decide_eq_true_eq]
theorem KL (h:H) (n:Nat):aR h n .aO=some (0,[]):=uj rfl rfl
theorem KN (h:H) (s:ByteArray):aR h 1 (.str s)=some (s.size,s.data.toList.map fun b=>.int .u8 b.toNat):=uj rfl rfl
def NJ (h:H) (n z:Nat) (a:AV) (p:Option (Nat×List AV)):Option (AV×H):=p.bind fun r=>dC h n z a r.1 r.2
theorem Ip (h:H) (n z:Nat) (a:AV) (m:Nat) (bs:List AV):NJ h n z a (some (m,bs))=dC h n z a m bs:=rfl
theorem Kw (h:H) (n z:Nat) (a b:AV):kd h n z a b=NJ h n z a (aR h n b):=uj rfl rfl
def Pk (h:H) (n z p o k m:Nat) (bs:List AV) (q:Option (List AV)):Option (AV×H):=q.bind fun cs=>
 AX (decide (o+(k+m)* n≤cs.length)) (some (.aD p o (k+m) n,h.set p (setFrom cs (o+k* n) bs))) (AX (decide (o+k* n=cs.length)&&roomy z (k+m)) (some (.aD h.next 0 (k+m) n,(h.del p).alloc (cs.drop o++bs))) none)
theorem Ks (h:H) (n z p o k m:Nat) (bs cs:List AV):Pk h n z p o k m bs (some cs)=AX (decide (o+(k+m)* n≤cs.length)) (some (.aD p o (k+m) n,h.set p (setFrom cs (o+k* n) bs))) (AX (decide (o+k* n=cs.length)&&roomy z (k+m)) (some (.aD h.next 0 (k+m) n,(h.del p).alloc (cs.drop o++bs))) none):=rfl
theorem Kv (h : H) (n z p o k m : Nat) (bs : List AV) : dC h n z (.aD p o k n) m bs = AX (decide (m = 0)) (some (.aD p o k n, h)) (AX (AV.aB bs && (decide (0 < n) && decide (h.floor ≤ p))) (Pk h n z p o k m bs (h.get p)) none) := by
 unfold dC AX
 by_cases c:m=0
 · simp [c]
 · rw [if_neg c]
   simp only[decide_eq_true_eq,if_neg c]
   by_cases c1:AV.aB bs=false∨n=0
   · rw[if_pos c1,if_neg]
     rcases c1 with c1|c1
     · simp [c1]
     · simp [c1]
   · rw[if_neg c1]
     have q1:AV.aB bs=true:=by cases q:AV.aB bs with|true=>rfl|false=>exact absurd (.inl q) c1
     by_cases c2:h.floor≤p
     · have qq:(AV.aB bs&&(decide (0<n)&&decide (h.floor≤p)))=true:=by simp [q1,c2];omega
       simp only[true_and,if_pos c2,qq,if_true,Pk,AX]
       cases h.get p with
       |none=>rfl
       |some cs=>simp only[uq,decide_eq_true_eq,ux]
     · have qq:(AV.aB bs&&(decide (0<n)&&decide (h.floor≤p)))=false:=by simp [c2]
       simp only[true_and,if_neg c2,qq];rfl
theorem Ku (h:H) (n z m:Nat) (bs:List AV):dC h n z .aO m bs=AX (decide (m=0)) (some (.aO,h)) (AX (AV.aB bs&&(decide (0<n)&&roomy z m)) (some (.aD h.next 0 m n,h.alloc bs)) none):=by
 unfold dC AX
 by_cases c:m=0
 · simp [c]
 · rw[if_neg c]
   simp only[decide_eq_true_eq,if_neg c]
   by_cases c1:AV.aB bs=false∨n=0
   · rw[if_pos c1,if_neg]
     rcases c1 with c1|c1
     · simp [c1]
     · simp [c1]
   · rw[if_neg c1]
     have q1:AV.aB bs=true:=by cases q:AV.aB bs with|true=>rfl|false=>exact absurd (.inl q) c1
     have q2:0<n:=by omega
     simp [q1,q2]
theorem zj {b n:Nat} (h:1≤b∧(n+n/4+512)* b≤281474976710656):roomy b n=true:=by simp only[roomy,h.1,h.2,and_self,decide_true]
theorem KJ {h:H} {n p o k:Nat} {m:Int} {cs:List AV} (hg:h.get p=some cs) (hn:0<n) (hk:o+k* n≤cs.length) (hm:0≤m∧m.toNat≤(cs.length-o)/n):rD h n (.aD p o k n) none (some (.int .i64 m)) none=some (.aD p o m.toNat n):=by
 have h1:k≤(cs.length-o)/n:=by rw[Nat.le_div_iff_mul_le hn];omega
 simp only[rD,hn,and_self,if_true,hg,uq,aA]
 rw[if_pos ⟨by omega,h1⟩]
 have h3:jR (.int .i64 m) ((cs.length-o)/n)=some m.toNat:=by
  simp only[jR,ni,uq]
  rw[if_pos]
  omega
 simp [h3]
theorem II {α:Type} {C:α→List AV} {n:Nat} (hC:∀x,(C x).length=n):∀{l:List α} {i f:Nat} {x:α},l[i]?=some x→f<n→(l.flatMap C)[i* n+f]?=(C x)[f]?
 |[],i,f,x,h,_=>by simp at h
 | y :: l, 0, f, x, h, hf => by
   obtain rfl:y=x:=by simpa using h
   rw[QO,Nat.zero_mul,uD,QS (by rw[hC];exact hf)]
 | y :: l, i + 1, f, x, h, hf => by
   rw[QO,QT (by rw[hC,uO];omega),hC]
   rw[show(i+1)* n+f-n=i* n+f by rw[uO];omega]
   exact II hC (by simpa using h) hf
theorem AH {α:Type} {C:α→List AV} {n:Nat} (hC:∀x,(C x).length=n):∀l:List α,(l.flatMap C).length=l.length* n
 |[]=>by simp
 |y::l=>by rw[QO,uS,hC,AH hC l,QI,uO];omega
theorem D5 {α:Type} {C:α→List AV} {n:Nat} (hC:∀x,(C x).length=n):∀{l:List α} {i:Nat} {x:α},l[i]?=some x→((l.flatMap C).drop (i* n)).take n=C x
 |[],i,x,h=>by simp at h
 | y :: l, 0, x, h => by
   obtain rfl:y=x:=by simpa using h
   rw[QO,Nat.zero_mul,Q2,List.take_append_of_le_length (by rw[hC];omega),uN (by rw[hC];omega)]
 | y :: l, i + 1, x, h => by
   rw[QO,List.drop_append,List.drop_of_length_le (by rw[hC,uO];omega),List.nil_append,hC,show(i+1)* n-n=i* n by rw[uO];omega]
   exact D5 hC (by simpa using h)
def xV (n:Nat) (h:H) (v:AV) (k:Nat) (cs:List AV):Prop:=aR h n v=some (k,cs)∧cs.length=k* n∧∀s,v≠.str s
theorem Rd.PI {h:H} {v:AV} {cs:List AV} (r:Rd h v cs):xV 1 h v cs.length cs:=⟨r.1,by omega,r.2⟩
theorem xV.len {n:Nat} {h:H} {v:AV} {k:Nat} {cs:List AV} (r:xV n h v k cs):iH false v=some (.int .i64 k):=by
 obtain⟨r,_,hs⟩:=r
 unfold aR at r
 split at r
 · obtain⟨h1,h2⟩:=uh (ue r);subst h1;rfl
 · exact absurd rfl (hs _)
 · split at r
   · simp only[ud]at r
     obtain⟨c,_,r⟩:=r
     split at r
     · obtain⟨h1,h2⟩:=uh (ue r);simp [iH,h1]
     · cases r
   · cases r
 · split at r
   · split at r
     · obtain⟨h1,h2⟩:=uh (ue r);simp [iH,h1]
     · cases r
   · cases r
 · cases r
theorem xV.mono {n:Nat} {h g:H} {v:AV} {k:Nat} {cs:List AV} (r:xV n h v k cs) (hg:∀id c,h.get id=some c→g.get id=some c):xV n g v k cs:=by
 obtain⟨r,hl,hs⟩:=r
 refine⟨?_,hl,hs⟩
 unfold aR at r ⊢
 split at r
 · exact r
 · exact r
 · split at r
   · rename_i q;simp only[if_pos q,ud]at r ⊢
     obtain⟨c,h1,r⟩:=r
     exact⟨c,hg _ _ h1,r⟩
   · cases r
 · exact r
 · cases r
theorem xV.at_ {n : Nat} {h : H} {v : AV} {k : Nat} {cs : List AV} (r : xV n h v k cs) : ∃ ad : Int → Nat → AV,
 (∀i:Int,0≤i∧i<k→fC n v (.int .i64 i)=some (ad i 0))∧
 (∀(i:Int) (f g:Nat),0≤i∧i<k→eV g (ad i f)=some (ad i (f+g)))∧
 (∀(i:Int) (f:Nat) (g:H),0≤i∧i<k→jf g (ad i f)=some (ad i f,g))∧
 (∀g:H,(∀id c,h.get id=some c→g.get id=some c)→(∀(i:Int) (f:Nat) (c:AV),0≤i∧i<k→cs[i.toNat* n+f]?=some c→bN false 1 (ad i f) g=some c)∧
   ∀i:Int,0≤i∧i<k→bN true n (ad i 0) g=some (.agg ((cs.drop (i.toNat* n)).take n))):=by
 obtain⟨r,hl,hs⟩:=r
 unfold aR at r
 split at r
 · obtain⟨h1,h2⟩:=uh (ue r);subst h1
   exact⟨fun _ _=>.bot,fun i hi=>by omega,fun i f g hi=>by omega,fun i f g hi=>by omega,fun g _=>⟨fun i f c hi=>by omega,fun i hi=>by omega⟩⟩
 · exact absurd rfl (hs _)
 · rename_i id off len s
   split at r
   · rename_i q
     subst q
     simp only[ud]at r
     obtain⟨d,hd,r⟩:=r
     split at r
     · rename_i hle
       obtain⟨h1,h2⟩:=uh (ue r)
       subst h1
       have bnd:∀i:Int,0≤i∧i<len→i.toNat* s+s≤len* s:=fun i hi=>by
        have:=uz s (show i.toNat+1≤len by omega);rw[uO]at this;omega
       refine⟨fun i f=>.aC id (off+i.toNat* s+f),fun i hi=>by simp [fC,NI hi],fun i f g _=>by simp [eV];omega,fun i f g _=>rfl,fun g hg=>⟨fun i f c hi hc=> ?_,fun i hi=> ?_⟩⟩
       · simp only[bN,hg _ _ hd,uq,gG,uu,uT]
         rw[←h2,uR]at hc
         split at hc
         · rw[uJ]at hc;rw[uv];exact hc
         · cases hc
       · have:=bnd i hi
         simp only[bN,hg _ _ hd,uq,gG,if_true,Nat.add_zero]
         rw[if_pos (by omega),←h2,List.drop_take,List.take_take,List.drop_drop,Nat.min_eq_left (by omega)]
     · cases r
   · cases r
 · rename_i t cells off len s
   split at r
   · rename_i q
     subst q
     split at r
     · rename_i hle
       obtain⟨h1,h2⟩:=uh (ue r)
       subst h1
       have bnd:∀i:Int,0≤i∧i<len→i.toNat* s+s≤len* s:=fun i hi=>by
        have:=uz s (show i.toNat+1≤len by omega);rw[uO]at this;omega
       refine⟨fun i f=>.aJ cells (off+i.toNat* s+f),fun i hi=>by simp [fC,NI hi],fun i f g _=>by simp [eV];omega,fun i f g _=>rfl,fun g hg=>⟨fun i f c hi hc=> ?_,fun i hi=> ?_⟩⟩
       · simp only[bN,gG,uu,uT]
         rw[←h2,uR]at hc
         split at hc
         · rw[uJ]at hc;rw[uv];exact hc
         · cases hc
       · have:=bnd i hi
         simp only[bN,gG,if_true,Nat.add_zero]
         rw[if_pos (by omega),←h2,List.drop_take,List.take_take,List.drop_drop,Nat.min_eq_left (by omega)]
     · cases r
   · cases r
 · cases r
def vF (n:Nat) (h:H) (v:AV) (k:Nat) (cs:List AV):Prop:=cs.length=k* n∧((v=.aO∧k=0)∨∃id,v=.aD id 0 k n∧h.get id=some cs∧h.floor≤id∧0<k)
theorem vF.nil {n:Nat} {h:H}:vF n h .aO 0 []:=⟨by simp,.inl ⟨rfl,rfl⟩⟩
theorem vF.mono {n:Nat} {h g:H} {v:AV} {k:Nat} {cs:List AV} (o:vF n h v k cs) (hf:g.floor=h.floor) (hg:∀i,v.id?=some i→g.get i=h.get i):vF n g v k cs:=by
 obtain⟨l,o⟩:=o
 refine⟨l, ?_⟩
 rcases o with o|⟨id,rfl,h1,h2,h3⟩
 · exact .inl o
 · exact .inr ⟨id,rfl,by rw[hg id rfl];exact h1,by rw[hf];exact h2,h3⟩
theorem vF.sc {n:Nat} {h:H} {v:AV} {k:Nat} {cs:List AV} (o:vF n h v k cs):v.sc=true:=by
 rcases o.2 with ⟨rfl,_⟩|⟨id,rfl,_⟩<;>rfl
theorem vF.lt {n:Nat} {h:H} {v:AV} {k:Nat} {cs:List AV} (o:vF n h v k cs) {i:Nat} (hi:v.id?=some i):h.floor≤i∧i<h.next:=by
 rcases o.2 with ⟨rfl,_⟩|⟨id,rfl,h1,h2⟩
 · cases hi
 · obtain rfl:=ue hi;exact⟨h2.1,h.lt _ _ h1⟩
theorem vF.rd {n:Nat} {h:H} {v:AV} {k:Nat} {cs:List AV} (o:vF n h v k cs):xV n h v k cs:=by
 obtain⟨l,o⟩:=o
 rcases o with ⟨rfl,rfl⟩|⟨id,rfl,h1,h2⟩
 · have:cs=[]:=Q4 (by omega)
   subst this
   exact⟨rfl,by simp,fun _=>by simp⟩
 · refine⟨?_,l,fun _=>by simp⟩
   simp only[aR,if_true,h1,uq,uD]
   rw[if_pos (by omega),Q2,uN (by omega)]
theorem vF.app {n:Nat} {h:H} {v:AV} {k:Nat} {cs:List AV} (o:vF n h v k cs) (hfn:h.floor≤h.next) {z m:Nat} (hm:0<m) (hn:0<n) (bs:List AV) (hb:bs.length=m* n) (hc:AV.aB bs=true) (hr:roomy z (k+m)=true):
 ∃v' h',dC h n z v m bs=some (v',h')∧vF n h' v' (k+m) (cs++bs)∧h'.floor=h.floor∧h.next≤h'.next∧(∀i,v.id?≠some i→i≠h.next→h'.get i=h.get i)∧v'.id?=some h.next:=by
 obtain⟨hl,o⟩:=o
 have hll:(cs++bs).length=(k+m)* n:=by rw[uS,hl,hb,uO]
 rcases o with ⟨rfl,rfl⟩|⟨id,rfl,hg,hf,_⟩
 · have:cs=[]:=Q4 (by omega)
   subst this
   refine⟨.aD h.next 0 m n,h.alloc bs, ?_,⟨hll,.inr ⟨h.next,by simp,by simp [H.aV],by simp;omega,by omega⟩⟩,by simp,by simp,fun i _ hi=>by rw[H.aV,if_neg hi],rfl⟩
   unfold dC
   rw[if_neg (by omega),if_neg (by simp [hc];omega)]
   rw[uD]at hr
   simp only[hr,if_true]
 · have hmn:0<m* n:=Nat.mul_pos hm hn
   have hnot:¬0+(k+m)* n≤cs.length:=by rw[hl,uO];omega
   refine⟨.aD h.next 0 (k+m) n,(h.del id).alloc (cs++bs), ?_,⟨hll,.inr ⟨h.next,by simp,by simp [H.aV], ?_,by omega⟩⟩,by simp,by simp,fun i h1 h2=> ?_,rfl⟩
   · unfold dC
     rw[if_neg (by omega),if_neg (by simp [hc];omega)]
     simp only[hf,and_self,if_true,hg,uq]
     rw[if_neg hnot,if_pos ⟨by omega,hr⟩]
     simp
   · have:=h.lt id cs hg;simp;omega
   · rw[H.aV,H.jd,if_neg h2,H.dJ,if_neg]
     intro e;subst e;exact h1 rfl
theorem vF.push {n:Nat} {h:H} {v:AV} {k:Nat} {cs:List AV} (o:vF n h v k cs) (hfn:h.floor≤h.next) {z m:Nat} (hm:0<m) (hn:0<n) (bs:List AV) (hb:bs.length=m* n) (hc:AV.aB bs=true) (hr:roomy z (k+m)=true):
 ∃v' h',kd (h.alloc bs) n z v (.aD h.next 0 m n)=some (v',h')∧vF n h' v' (k+m) (cs++bs)∧h'.floor=h.floor∧h.next+1≤h'.next∧(∀i,v.id?≠some i→i<h.next→h'.get i=h.get i)∧v'.id?=some (h.next+1):=by
 have o1:vF n (h.alloc bs) v k cs:=o.mono (by simp) fun i q=>by rw[H.aV,if_neg];have:=o.lt q;omega
 obtain⟨v',h',p1,p2,p3,p4,p5,p6⟩:=o1.app (z:=z) (by simp;omega) hm hn bs hb hc hr
 refine⟨v',h', ?_,p2,by rw[p3];simp,by simpa using p4,fun i q1 q2=> ?_,by simpa using p6⟩
 · have src:aR (h.alloc bs) n (.aD h.next 0 m n)=some (m,bs):=by
    simp only[aR,if_true,H.aV,uq,uD]
    rw[if_pos (by omega),Q2,uN (by omega)]
   unfold kd;rw[src,uq];exact p1
 · rw[p5 i q1 (by simp;omega),H.aV,if_neg (by omega)]
def yI (n k:Nat) (cs:List AV):AV:=if k=0 then .aO else .aU false cs 0 k n
theorem GC {n k:Nat} {h:H} {cs:List AV} (hl:cs.length=k* n):xV n h (yI n k cs) k cs:=by
 unfold yI
 by_cases hk:k=0
 · subst hk
   have:cs=[]:=Q4 (by omega)
   subst this
   exact⟨rfl,by simp,fun _=>by simp⟩
 · rw[if_neg hk]
   refine⟨?_,hl,fun _=>by simp⟩
   simp only[aR,if_true,uD]
   rw[if_pos (by omega),Q2,uN (by omega)]
theorem vF.zk {n:Nat} {h:H} {v:AV} {k:Nat} {l:List Int} {fl m:Nat} {t:Bool} (o:vF n h v k (ints l)) (hf:fl≤h.floor):snap h.get fl (m+2) t v=some (yI n k (ints l)):=by
 obtain⟨hl,o⟩:=o
 rw[pg]at hl
 rcases o with ⟨rfl,rfl⟩|⟨id,rfl,q,h2,hk⟩
 · rfl
 · unfold snap
   rw[if_neg (by omega),q,uq,if_pos (by rw[pg];omega)]
   rw[Q2,uN (by rw[pg];omega),wX]
   unfold yI
   rw[if_neg (by omega)];rfl
attribute [go_sem] List.map_cons List.map_nil Bool.and_true Bool.true_and Bool.and_self List.append_nil Option.map_some Option.map_none Bool.and_false Bool.false_and Bool.or_false Bool.or_true Bool.true_or Bool.false_or Bool.or_self bR.aN bR.aH Int.reduceAdd Int.reduceSub Int.reduceMul Int.reduceNeg Int.reduceToNat List.take_succ_cons List.take_zero List.drop_zero List.drop_succ_cons Int.cast_ofNat_Int Int.natCast_one Int.natCast_zero List.length_set
theorem vr:type_of% @dt∧type_of% @df∧type_of% @PC∧type_of% @PB∧type_of% @PH∧type_of% @PG∧type_of% @wi∧type_of% @wb∧type_of% @vS∧type_of% @yz∧type_of% @JF∧type_of% @GF∧type_of% @NI∧type_of% @ve∧type_of% @u6∧type_of% @vm∧type_of% @uW∧type_of% @H.iX∧type_of% @H.jN∧type_of% @H.kE∧type_of% @H.je∧type_of% @Jx∧type_of% @GR∧type_of% @IF∧type_of% @IE∧type_of% @GX∧type_of% @BK∧type_of% @C5∧type_of% @GO∧type_of% @Is∧type_of% @Jl∧type_of% @Jm∧type_of% @pC∧type_of% @oM∧type_of% @qU∧type_of% @pK∧type_of% @IX∧type_of% @IW∧type_of% @se∧type_of% @sf∧type_of% @EK∧type_of% @Ed∧type_of% @yK∧type_of% @DU∧type_of% @Ga∧type_of% @GM∧type_of% @Kz∧type_of% @IP∧type_of% @KW∧type_of% @KV∧type_of% @KT∧type_of% @KS∧type_of% @KU∧type_of% @KQ∧type_of% @DY∧type_of% @EF∧type_of% @EI∧type_of% @EG∧type_of% @C4∧type_of% @Bx∧type_of% @BI∧type_of% @EH∧type_of% @Au∧type_of% @Eh∧type_of% @I8∧type_of% @D6∧type_of% @Eo∧type_of% @En∧type_of% @KP∧type_of% @KO∧type_of% @tu∧type_of% @beq_refl∧type_of% @wC∧type_of% @KR∧type_of% @Kx∧type_of% @Jw∧type_of% @Jv∧type_of% @Ju∧type_of% @CF∧type_of% @FQ∧type_of% @Bp∧type_of% @DM:=⟨@dt, @df, @PC, @PB, @PH, @PG, @wi, @wb, @vS, @yz, @JF, @GF, @NI, @ve, @u6, @vm, @uW, @H.iX, @H.jN, @H.kE, @H.je, @Jx, @GR, @IF, @IE, @GX, @BK, @C5, @GO, @Is, @Jl, @Jm, @pC, @oM, @qU, @pK, @IX, @IW, @se, @sf, @EK, @Ed, @yK, @DU, @Ga, @GM, @Kz, @IP, @KW, @KV, @KT, @KS, @KU, @KQ, @DY, @EF, @EI, @EG, @C4, @Bx, @BI, @EH, @Au, @Eh, @I8, @D6, @Eo, @En, @KP, @KO, @tu, @beq_refl, @wC, @KR, @Kx, @Jw, @Jv, @Ju, @CF, @FQ, @Bp, @DM⟩
theorem Bv:type_of% @At∧type_of% @Ai∧type_of% @Ag∧type_of% @Ee∧type_of% @D4∧type_of% @Ad∧type_of% @JP∧type_of% @Jp∧type_of% @Jo∧type_of% @Jt∧type_of% @KM∧type_of% @KK∧type_of% @KL∧type_of% @KN∧type_of% @Ip∧type_of% @Kw∧type_of% @Ks∧type_of% @Kv∧type_of% @Ku∧type_of% @zj∧type_of% @Gd∧type_of% @Hy∧type_of% @Ny∧type_of% @Nx:=⟨@At, @Ai, @Ag, @Ee, @D4, @Ad, @JP, @Jp, @Jo, @Jt, @KM, @KK, @KL, @KN, @Ip, @Kw, @Ks, @Kv, @Ku, @zj, @Gd, @Hy, @Ny, @Nx⟩
theorem wo:type_of% @H.jN∧type_of% @H.je∧type_of% @Ee∧type_of% @At∧type_of% @H.iX∧type_of% @H.kE∧type_of% @D4∧type_of% @Ag:=⟨@H.jN, @H.je, @Ee, @At, @H.iX, @H.kE, @D4, @Ag⟩
theorem Bw:type_of% @ve∧type_of% @u6∧type_of% @vm∧type_of% @uW∧type_of% @Ad∧type_of% @Ai:=⟨@ve, @u6, @vm, @uW, @Ad, @Ai⟩
end Ab
set_option maxRecDepth 100000
namespace Ab
open Go
def L8 (c:Nat):Nat:=if c%2=1 then(c/2)^^^3988292384 else c/2
def GU:Nat→Nat→Nat
 |0,c=>c
 |n+1,c=>GU n (L8 c)
def J0 (c b:Nat):Nat:=GU 8 (c^^^b)
def Iy (s:ByteArray):Nat→Nat→Nat→Nat
 |0,_,c=>c
 |n+1,i,c=>Iy s n (i+1) (J0 c (wO s i))
def O6 (a:Nat) (s:ByteArray):Nat:=4294967295-Iy s s.size 0 (4294967295-a)
def On (s:ByteArray):Nat:=O6 0 s
theorem FP {a s:Nat} (hs:s≤64):oN .shr .i64 (a:Int) (s:Int)=some (.int .i64 ((a/2^s:Nat):Int)):=by
 unfold oN
 rw[if_neg (by omega)]
 simp only[IntKind.bits,Int.toNat_natCast,Nat.min_eq_left hs]
 rw[Int.fdiv_eq_ediv_of_nonneg _ (Int.pow_nonneg (by omega))]
 simp
theorem EE {h:H} {v:AV} {k:Nat} {l:List Nat} (o:vF 1 h v k (xK l)):tq h v (aR h 1 v)=some (.str (bytesOf l),h):=by
 rw[o.rd.1]
 simp only[tq,uq,DW]
 rcases o.2 with ⟨rfl,_⟩|⟨id,rfl,_⟩<;>rfl
def xG (s:ByteArray) (i j:Nat):Nat→Nat→Nat
 |0,k=>k
 |f+1,k=>if k<258∧i+k<s.size∧wO s (i+k)=wO s (j+k)then xG s i j f (k+1)else k
def same (s:ByteArray) (i j:Nat):Nat:=xG s i j 258 0
def vB (s:ByteArray) (i:Nat):Nat→Nat×Nat→Nat×Nat
 |0,b=>b
 |j+1,b=>vB s i j (if b.1<same s i j then(same s i j,i-j)else b)
theorem FO (s:ByteArray) (i j:Nat):∀f k,xG s i j f k≤k+f
 |0,k=>by simp [xG]
 | f + 1, k => by
   unfold xG
   split
   · have:=FO s i j f (k+1);omega
   · omega
theorem Hi (s:ByteArray) (i j:Nat):same s i j≤258:=by have:=FO s i j 258 0;unfold same;omega
theorem CC (s:ByteArray) (i j:Nat) (hi:i≤s.size):∀f k,i+k≤s.size→i+xG s i j f k≤s.size
 |0,k,h=>by simpa [xG]using h
 | f + 1, k, h => by
   unfold xG
   split
   · rename_i q;exact CC s i j hi f (k+1) (by omega)
   · exact h
theorem DK (s:ByteArray) (i j:Nat) (hi:i≤s.size):i+same s i j≤s.size:=CC s i j hi 258 0 (by omega)
theorem BJ (s:ByteArray) (i:Nat) (hi:i≤s.size):∀(j:Nat) (b:Nat×Nat),i+b.1≤s.size→i+(vB s i j b).1≤s.size
 |0,b,h=>h
 | j + 1, b, h => by
   unfold vB
   refine BJ s i hi j _ ?_
   split
   · exact DK s i j hi
   · exact h
structure Tok where
 lit:Int
 len:Int
 vC:Int
deriving DecidableEq
def JG (t:Tok):List Int:=[t.lit,t.len,t.vC]
def CY (t:Tok):List AV:=ints (JG t)
def KY (ts:List Tok):List Int:=ts.flatMap JG
def vE (ts:List Tok):List AV:=ts.flatMap CY
theorem CL (t:Tok):(CY t).length=3:=rfl
theorem H9 (ts:List Tok):(vE ts).length=ts.length* 3:=AH CL ts
theorem zV:∀ts:List Tok,vE ts=ints (KY ts)
 |[]=>rfl
 | t :: ts => by
   have:=zV ts
   unfold vE KY at *
   rw[QO,QO,pf,this];rfl
theorem CM (ts:List Tok) (t:Tok):vE (ts++[t])=vE ts++CY t:=by simp [vE]
def v8 (s:ByteArray) (i:Nat):Tok×Nat:=
 if(vB s i i (0,0)).1<3 then(⟨wO s i,0,0⟩,i+1)else(⟨0,(vB s i i (0,0)).1,(vB s i i (0,0)).2⟩,i+(vB s i i (0,0)).1)
def y7 (s:ByteArray):Nat→Nat→List Tok
 |0,_=>[]
 |f+1,i=>if i<s.size then(v8 s i).1::y7 s f (v8 s i).2 else []
theorem F3 (s:ByteArray) (i:Nat):i<(v8 s i).2:=by
 unfold v8;split<;>simp<;>omega
theorem F0 (s:ByteArray) (i:Nat) (hi:i<s.size):(v8 s i).2≤s.size:=by
 unfold v8;split
 · exact hi
 · exact BJ s i (by omega) i (0,0) (by show i+0≤_;omega)
def CO (ts:List Tok):AV:=yI 3 ts.length (vE ts)
def tokens (s:ByteArray):List Tok:=y7 s s.size 0
def Ext (h g:H):Prop:=∀id c,h.get id=some c→g.get id=some c
theorem Ext.refl (h:H):Ext h h:=fun _ _ q=>q
theorem Ext.trans {a b c:H} (x:Ext a b) (y:Ext b c):Ext a c:=fun i d q=>y i d (x i d q)
theorem Ext.alloc {a h:H} (x:Ext a h) (cs:List AV):Ext a (h.alloc cs):=fun i d q=>by
 have:=h.lt _ _ (x i d q)
 rw[H.aV,if_neg (by omega)];exact x i d q
theorem Ext.set {a h:H} (x:Ext a h) {id:Nat} (hid:a.next≤id) (cs:List AV):Ext a (h.set id cs):=fun i d q=>by
 have:=a.lt _ _ q
 rw[H.dd,if_neg (by omega)];exact x i d q
theorem xV.NB {h:H} {v:AV} {ts:List Tok} (r:xV 3 h v ts.length (vE ts)):∃ad:Int→Nat→AV,
 (∀i:Int,0≤i∧i<ts.length→fC 3 v (.int .i64 i)=some (ad i 0))∧
 (∀(i:Int) (f g:Nat),0≤i∧i<ts.length→eV g (ad i f)=some (ad i (f+g)))∧
 ∀ g : H, Ext h g → ∀ (i : Nat) (t : Tok), ts[i]? = some t → bN false 1 (ad i 0) g = some (.int .i64 t.lit) ∧ bN false 1 (ad i 1) g = some (.int .i64 t.len) ∧ bN false 1 (ad i 2) g = some (.int .i64 t.vC) ∧
   bN true 3 (ad i 0) g=some (.agg [.int .i64 t.lit,.int .i64 t.len,.int .i64 t.vC]):=by
 obtain⟨ad,a1,a2,_,a3⟩:=r.at_
 refine⟨ad,a1,a2,fun g hg i t ht=> ?_⟩
 obtain⟨b1,b2⟩:=a3 g hg
 have hi:i<ts.length:=(uo.1 ht).1
 have hI:(0:Int)≤(i:Int)∧(i:Int)<ts.length:=⟨by omega,by omega⟩
 have ti:((i:Int)).toNat=i:=by omega
 have q:∀f,f<3→(vE ts)[((i:Int)).toNat* 3+f]?=(CY t)[f]?:=fun f hf=>by rw[ti];exact II CL ht hf
 refine⟨b1 i 0 _ hI (q 0 (by omega)),b1 i 1 _ hI (q 1 (by omega)),b1 i 2 _ hI (q 2 (by omega)), ?_⟩
 rw[b2 i hI,ti,vE,D5 CL ht];rfl
def vI (size:Int) (t:Tok):Option Int:=
 if t.len=0 then(if t.lit<0∨255<t.lit∨t.vC≠0 then none else some (size+1))
 else if t.len<3∨258<t.len∨t.vC<1∨32768<t.vC∨size<t.vC∨t.lit≠0 then none else some (size+t.len)
def vn : Int → List Tok → Bool
 |_,[]=>true
 | s, t :: r => match vI s t with
   |none=>false
   |some s'=>if 8192<s' then false else vn s' r
theorem Rd.wK {h:H} {v:AV} {l:List Int} (r:Rd h v (ints l)):∃ad:Int→AV,(∀i:Int,0≤i∧i<l.length→fC 1 v (.int .i64 i)=some (ad i))∧
 ∀g:H,Ext h g→∀(i:Nat) (n:Int),l[i]?=some n→bN false 1 (ad i) g=some (.int .i64 n):=by
 have r2:=r.PI
 rw[pg]at r2
 obtain⟨ad,a1,_,_,a3⟩:=r2.at_
 refine⟨fun i=>ad i 0,a1,fun g hg i n hn=> ?_⟩
 have hi:i<l.length:=(uo.1 hn).1
 refine(a3 g hg).1 i 0 _ ⟨by omega,by omega⟩ ?_
 rw[GF,Nat.mul_one,Nat.add_zero]
 exact sg hn
structure ND where
 name:ByteArray
 gone:Bool
 vec:List Int
 Jy:Int
 node:Int
 method:Int
 packed:ByteArray
 size:Int
 P6:Int
structure PE (h:H) (p:AV) (cs:List AV):Prop where
 nil:∀g:H,jf g p=some (p,g)
 sR:∃q:Nat→AV,(∀k,eV k p=some (q k))∧∀g:H,Ext h g→∀(k:Nat) (c:AV),cs[k]?=some c→bN false 1 (q k) g=some c
abbrev NF:=ND×AV
structure Ph (h:H) (x:NF):Prop where
 vec:Rd h x.2 (ints x.1.vec)
 vl:x.1.vec.length<1125899906842624
 nl:x.1.name.size<1125899906842624
 pl:x.1.packed.size<1125899906842624
theorem Ph.mono {h g:H} {x:NF} (o:Ph h x) (e:Ext h g):Ph g x:=⟨o.vec.mono fun i c q=>e i c q,o.vl,o.nl,o.pl⟩
theorem Gx (c:ae) (e:Env) (h:H) (x y:X):ah c e h (.mx [x,y])=cU h (lJ (x.ev e) (y.ev e)):=by
 simp only[ah,aW,QQ,Rl,fP]
 cases lJ (x.ev e) (y.ev e)<;>rfl
def Cp (a b:Int):Int:=if a<b then b else a
theorem DV (k:IntKind) (a b:Int):lJ (.int k a) (.int k b)=some (.int k (Cp a b)):=rfl
theorem Rd.Pv {h:H} {v:AV} {cs:List AV} (r:Rd h v cs) (hc:cs≠[]):fm 1 v .aO=some false:=by
 obtain⟨r,hs⟩:=r
 unfold aR at r
 split at r
 · obtain⟨_,h2⟩:=uh (ue r);exact absurd h2.symm hc
 · exact absurd rfl (hs _)
 · rfl
 · rfl
 · cases r
theorem Hx {n:Nat} {h:H} {v:AV} {k:Nat} {cs:List AV} (r:xV n h v k cs) (hfn:h.floor≤h.next) (hn:0<n) (hk:0<k) {z:Nat} (hr:roomy z k=true) (hc:AV.aB cs=true):
 kd (h.alloc []) n z (.aD h.next 0 0 n) v=some (.aD (h.next+1) 0 k n,((h.alloc []).del h.next).alloc cs):=by
 have r2:xV n (h.alloc []) v k cs:=r.mono fun i c q=>by rw[H.aV,if_neg (by have:=h.lt _ _ q;omega)];exact q
 unfold kd
 rw[r2.1,uq]
 have hkn:0<k* n:=Nat.mul_pos hk hn
 unfold dC
 rw[if_neg (by omega),if_neg (by simp [hc];omega)]
 simp only[H.iX,hfn,and_self,if_true]
 rw[ve rfl,uq,if_neg (by simp;omega),if_pos ⟨by simp,by simpa using hr⟩]
 simp
theorem Cd:∀l:List Int,AV.aB (ints l)=true
 |[]=>rfl
 | n :: l => by
   have:=Cd l
   show AV.aB (I n::ints l)=true
   rw[pK,this];rfl
theorem JY (h:H) (v:AV) (l:List Int) (rd:Rd h v (ints l)) (hl:0<l.length) (hb:l.length<1000000) (hfn:h.floor≤h.next):aQ AP.A 118 [v] h=some (.aD (h.next+1) 0 l.length 1,((h.alloc []).del h.next).alloc (ints l)):=by
 have r2:=rd.PI
 rw[pg]at r2
 have ap:=Hx r2 hfn (by omega) hl (z:=8) (by simp [roomy];omega) (Cd l)
 have nn:=rd.Pv (fun q=>by
  have q2:(ints l).length=0:=by rw[q];rfl
  rw[pg]at q2
  omega)
 refine sZ (fn:=AP.f118) (h2:=((h.alloc []).del h.next).alloc (ints l)) (e:=[(2,.aD (h.next+1) 0 l.length 1)]) (vs:=[.aD (h.next+1) 0 l.length 1]) rfl rfl rfl ?_ rfl
 clear rd r2
 simp (disch:=omega)only[go_sem,vr,AP.f118,nn,ap]
def Jr (name:ByteArray) (node:Nat) (Jy:Int) (text:ByteArray):ND:=⟨name,false,[0,0,0,0].set node Jy,Jy,node,0,text,text.size,On text⟩
def nA:ByteArray:=⟨#[97]⟩
def PJ:ByteArray:=⟨#[104,105]⟩
def Qa:ByteArray:=⟨#[104,111]⟩
def eA:ND:=Jr nA 0 1 PJ
def eB:ND:=Jr nA 2 1 Qa
def eD:ND:={eA with P6:=(On PJ^^^1:Nat)}
end Ab
