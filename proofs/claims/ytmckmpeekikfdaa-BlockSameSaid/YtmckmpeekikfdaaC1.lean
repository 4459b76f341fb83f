/- Part C1. -/
import Derived.KernelRfl
import Derived.Test.YtmckmpeekikfdaaAP
set_option linter.unusedSimpArgs false
set_option linter.unusedVariables false
namespace Ab
open Go
theorem QF:type_of% @List.getD_eq_getElem?_getD:= @List.getD_eq_getElem?_getD
theorem QG:type_of% @List.length_cons:= @List.length_cons
theorem QH:type_of% @List.getElem?_eq_getElem:= @List.getElem?_eq_getElem
theorem QI:type_of% @List.length_nil:= @List.length_nil
theorem QJ:type_of% @decide_eq_false:= @decide_eq_false
theorem QK:type_of% @Option.map_some:= @Option.map_some
theorem QL:type_of% @decide_eq_true:= @decide_eq_true
theorem QM:type_of% @List.flatMap_cons:= @List.flatMap_cons
theorem QN:type_of% @Int.eq_ofNat_of_zero_le:= @Int.eq_ofNat_of_zero_le
theorem QO:type_of% @List.map_cons:= @List.map_cons
theorem QP:type_of% @List.mem_map:= @List.mem_map
theorem QQ:type_of% @List.getElem?_append_left:= @List.getElem?_append_left
theorem QR:type_of% @List.getElem?_append_right:= @List.getElem?_append_right
theorem QS:type_of% @List.append_assoc:= @List.append_assoc
theorem QT:type_of% @List.getElem?_eq_none:= @List.getElem?_eq_none
theorem QU:type_of% @List.getElem?_set:= @List.getElem?_set
theorem QV:type_of% @List.length_replicate:= @List.length_replicate
theorem QW:type_of% @List.getElem_mem:= @List.getElem_mem
theorem QX:type_of% @Nat.pow_le_pow_right:= @Nat.pow_le_pow_right
theorem QY:type_of% @List.append_nil:= @List.append_nil
theorem QZ:type_of% @List.drop_zero:= @List.drop_zero
theorem Q0:type_of% @Classical.byContradiction:= @Classical.byContradiction
theorem Q1:type_of% @List.length_set:= @List.length_set
theorem Q2:type_of% @List.eq_nil_of_length_eq_zero:= @List.eq_nil_of_length_eq_zero
theorem Q3:type_of% @List.getElem?_replicate:= @List.getElem?_replicate
theorem Q4:type_of% @List.sum_cons:= @List.sum_cons
theorem Q5:type_of% @List.eq_of_mem_replicate:= @List.eq_of_mem_replicate
theorem Q6:type_of% @List.length_take:= @List.length_take
theorem Q7:type_of% @List.mem_append:= @List.mem_append
theorem Q8:type_of% @List.getElem?_range:= @List.getElem?_range
theorem Q9:type_of% @List.map_congr_left:= @List.map_congr_left
theorem Ra:type_of% @List.mem_or_eq_of_mem_set:= @List.mem_or_eq_of_mem_set
theorem Rb:type_of% @List.mem_iff_getElem:= @List.mem_iff_getElem
theorem Rc:type_of% @List.mem_cons_of_mem:= @List.mem_cons_of_mem
theorem Re:type_of% @Option.map_none:= @Option.map_none
theorem Rf:type_of% @List.Perm.refl:= @List.Perm.refl
theorem Rg:type_of% @Int.le_refl:= @Int.le_refl
theorem Rh:type_of% @congrArg:= @congrArg
theorem Ri:type_of% @List.length_map:= @List.length_map
theorem Rj:type_of% @List.map_nil:= @List.map_nil
theorem Rk:type_of% @List.nodup_cons:= @List.nodup_cons
theorem Rl:type_of% @List.take_zero:= @List.take_zero
attribute [local congr] sL
def wh (l:List Int) (n:Nat):Nat:=if n=0 then 0 else l.countP (fun x=>x==(n:Int))
def syms (l:List Int) (n:Nat):List Int:=if n=0 then []else l.zipIdx.filterMap fun p=>if p.1=(n:Int)then some (p.2:Int)else none
theorem yG (p:List Int) (x:Int) (n:Nat):wh (p++[x]) n=wh p n+if n≠0∧x=(n:Int)then 1 else 0:=by
 unfold wh
 by_cases hn:n=0
 · simp [hn]
 · simp [hn,List.countP_append,List.countP_cons]
theorem zg (p:List Int) (x:Int) (n:Nat):syms (p++[x]) n=syms p n++if n≠0∧x=(n:Int)then [(p.length:Int)]else []:=by
 unfold syms
 by_cases hn:n=0
 · simp [hn]
 · simp [hn,List.zipIdx_append,List.filterMap_append]
   split<;>simp_all
theorem FQ (l:List Int) (n:Nat):(syms l n).length≤l.length:=by
 unfold syms
 split
 · simp
 · refine uP (List.length_filterMap_le _ _) ?_
   simp
theorem zu (l:List Int) (n:Nat):wh l n≤l.length:=by
 unfold wh
 split
 · omega
 · exact List.countP_le_length
structure Bk (h0 h:H) (b:Nat) (C:Nat→AV) (p:List Int):Prop where
 get:h.get b=some (mX 49 C)
 fl:h.floor=h0.next
 fb:h0.next≤b
 nx:h.floor≤h.next
 low:∀id,id<h0.next→h.get id=h0.get id
 Ie:∀n,n<16→C (16+n)=I (wh p n)
 own:∀n,n<16→mV h (C (32+n)) (ints (syms p n))
 nb:∀n,n<16→(C (32+n)).id?≠some b
 JO:∀n m,n<16→m<16→n≠m→∀i,(C (32+n)).id?=some i→(C (32+m)).id?≠some i
set_option maxHeartbeats 1000000 in
theorem HW (h0 h : H) (b : Nat) (C : Nat → AV) (p : List Int) (n : Nat) (x : AV) (N : Int) (bk : Bk h0 h b C p) (hn1 : 0 < n) (hn : n < 16) (hp : p.length < 100000) (hel : ∃ a, fB 1 x (I p.length) = some a ∧ ∀ g : H, (∀ id c, h0.get id = some c → g.get id = some c) → bN false 1 a g = some (I n)) (hN : (p.length : Int) < N) :
 ∃h' C',aK (aQ AP.A) bo AP.f41L1 [(3,.aC b 0),(10,x),(11,I N),(12,I p.length)] h=some (.normal,[(3,.aC b 0),(10,x),(11,I N),(12,I (p.length+1))],h')∧Bk h0 h' b C' (p++[(n:Int)])∧∀i,(i<16∨i=48)→C' i=C i:=by
 obtain⟨a,ha1,ha2⟩:=hel
 have hlow:∀id c,h0.get id=some c→h.get id=some c:=fun id c q=>by rw[bk.low id (h0.lt id c q)];exact q
 have hld:=ha2 h hlow
 have hx:cG (I n) 16=some n:=jV hn
 have g1:(mX 49 C)[16+n]?=some (I (wh p n)):=by rw[fy (by omega),bk.Ie n hn]
 have hcl:=zu p n
 have hw:IntKind.wrap .i64 ((wh p n:Int)+1)=wh p n+1:=s8 (by omega) (by omega)
 have hw2:IntKind.wrap .i64 ((p.length:Int)+1)=p.length+1:=s8 (by omega) (by omega)
 have hfb:h.floor≤b:=by rw[bk.fl];exact bk.fb
 have hs1:(mX 49 C).set (16+n) (I (wh p n+1))=mX 49 (tF C (16+n) (I (wh p n+1))):=s7 (by omega) _
 obtain⟨C1,eC1⟩:∃D,D=tF C (16+n) (I (wh p n+1)):=⟨_,rfl⟩
 rw[←eC1]at hs1
 obtain⟨h1,eh1⟩:∃g,g=(h.set b (mX 49 C1)).alloc [I p.length]:=⟨_,rfl⟩
 have hbn:b<h.next:=h.lt _ _ bk.get
 have hb1:h1.get b=some (mX 49 C1):=by
  rw[eh1,H.aV,H.jd,if_neg (by omega),H.dd,if_pos rfl,bk.get];rfl
 have hC1:C1 (32+n)=C (32+n):=by rw[eC1,tF,if_neg (by omega)]
 have hlo1:∀i,i≠b→i≠h.next→h1.get i=h.get i:=fun i q1 q2=>by
  rw[eh1,H.aV,H.jd,if_neg q2,H.dd,if_neg q1]
 have hfl1:h1.floor=h.floor:=by rw[eh1];simp
 have hnx1:h1.next=h.next+1:=by rw[eh1];simp
 have ho1:∀m,m<16→mV h1 (C (32+m)) (ints (syms p m)):=fun m hm=>
  (bk.own m hm).mono hfl1 fun i hi=>hlo1 i (fun e=>bk.nb m hm (e ▸ hi)) (by have:=(bk.own m hm).lt hi;omega)
 have hsl:=FQ p n
 have hnxf:=bk.nx
 obtain⟨v',h2,q1,q2,q3,q4,q5,q6⟩:=(ho1 n hn).app (by omega) (z:=8) (I p.length) rfl (by simp [roomy];omega)
 have g2:(mX 49 C1)[32+n]?=some (C (32+n)):=by rw[fy (by omega),hC1]
 have hb2:h2.get b=some (mX 49 C1):=by rw[q5 b (bk.nb n hn) (by omega)];exact hb1
 have hs2:(mX 49 C1).set (32+n) v'=mX 49 (tF C1 (32+n) v'):=s7 (by omega) _
 have hfl2:h2.floor≤b:=by have:=bk.fb;have:=bk.fl;omega
 have hv':v'.cells=[v']∧v'.sc=true:=by
  rcases q2 with ⟨rfl,_⟩|⟨id,rfl,_⟩<;>exact⟨rfl,rfl⟩
 have b1:16+n≤48:=by omega
 have b2:32+n≤48:=by omega
 have hal:(h.set b (mX 49 C1)).get b=some (mX 49 C1):=by rw[H.dd,if_pos rfl,bk.get];rfl
 have hal2:h1.get h.next=some [I p.length]:=by rw[eh1,H.aV,H.jd,if_pos rfl]
 refine⟨h2.set b (mX 49 (tF C1 (32+n) v')),tF C1 (32+n) v', ?_, ?_,fun i hi=>by rw[tF,if_neg (by omega),eC1,tF,if_neg (by omega)]⟩
 · simp only[I]at *
   simp [AP.f41L1,aK,au,aM,ai,ah,bm,aX,ha1,hld,hN,hn1,hx,bk.get,g1,hw,hw2,hfb,hs1,dx,dH,j9,aR,H.aV,bR.aN,b1,b2,hal,g2,←eh1,hal2,q1,hb2,hs2,hfl2,hv'.1,hv'.2]
 · refine⟨by rw[H.dd,if_pos rfl,hb2];rfl,by simp;rw[q3,hfl1,bk.fl],bk.fb,by simp;omega,fun id hid=> ?_,fun m hm=> ?_,fun m hm=> ?_,fun m hm=> ?_,fun m k hm hk hne i hi=> ?_⟩
   · have hfb':=bk.fb
     have hfl':=bk.fl
     rw[H.dd,if_neg (by omega),q5 id ?_ (by omega),hlo1 id (by omega) (by omega),bk.low id hid]
     intro hi
     rcases bk.own n hn with ⟨e,_⟩|⟨k,e,_,q⟩
     · rw[e]at hi;cases hi
     · rw[e]at hi;cases hi;have:=q.1;omega
   · rw[tF,if_neg (by omega),eC1,tF,yG]
     by_cases e:m=n
     · subst e;rw[if_pos rfl,if_pos ⟨by omega,rfl⟩];simp
     · rw[if_neg (by omega),bk.Ie m hm,if_neg (by omega)];simp
   · have hm32:tF C1 (32+n) v' (32+m)=if m=n then v' else C (32+m):=by
      simp only[tF]
      by_cases e:m=n
      · rw[if_pos (by omega),if_pos e]
      · rw[if_neg (by omega),if_neg e,eC1,tF,if_neg (by omega)]
     rw[hm32,zg]
     by_cases e:m=n
     · subst e
       rw[if_pos rfl,if_pos ⟨by omega,rfl⟩,pd]
       refine q2.mono (by simp) fun i hi=> ?_
       rw[H.dd,if_neg]
       intro e2;subst e2;rw[q6]at hi;cases hi;omega
     · rw[if_neg e,if_neg (by omega),QY]
       refine(ho1 m hm).mono (by simp;omega) fun i hi=> ?_
       have hlt:=(bk.own m hm).lt hi
       rw[H.dd,if_neg (fun (e2:i=b)=>bk.nb m hm (e2 ▸ hi)),q5 i (bk.JO m n hm hn e i hi) (by omega)]
   · have hm32:tF C1 (32+n) v' (32+m)=if m=n then v' else C (32+m):=by
      simp only[tF]
      by_cases e:m=n
      · rw[if_pos (by omega),if_pos e]
      · rw[if_neg (by omega),if_neg e,eC1,tF,if_neg (by omega)]
     rw[hm32]
     by_cases e:m=n
     · rw[if_pos e,q6];intro e2;cases e2;omega
     · rw[if_neg e];exact bk.nb m hm
   · have hm32:∀m,tF C1 (32+n) v' (32+m)=if m=n then v' else C (32+m):=fun m=>by
      simp only[tF]
      by_cases e:m=n
      · rw[if_pos (by omega),if_pos e]
      · rw[if_neg (by omega),if_neg e,eC1,tF,if_neg (by omega)]
     rw[hm32]at hi ⊢
     by_cases e:m=n
     · rw[if_pos e,q6]at hi
       cases hi
       rw[if_neg (by omega)]
       intro e2;have:=(bk.own k hk).lt e2;omega
     · rw[if_neg e]at hi
       by_cases e3:k=n
       · rw[if_pos e3,q6];intro e2;cases e2;have:=(bk.own m hm).lt hi;omega
       · rw[if_neg e3];exact bk.JO m k hm hk hne i hi
set_option maxHeartbeats 1000000 in
theorem HX (h0 h:H) (b:Nat) (C:Nat→AV) (p:List Int) (x:AV) (N:Int) (bk:Bk h0 h b C p) (hp:p.length<100000) (hel:∃a,fB 1 x (I p.length)=some a∧∀g:H,(∀id c,h0.get id=some c→g.get id=some c)→bN false 1 a g=some (I 0)) (hN:(p.length:Int)<N):
 aK (aQ AP.A) bo AP.f41L1 [(3,.aC b 0),(10,x),(11,I N),(12,I p.length)] h=some (.normal,[(3,.aC b 0),(10,x),(11,I N),(12,I (p.length+1))],h)∧Bk h0 h b C (p++[0]):=by
 obtain⟨a,ha1,ha2⟩:=hel
 have hlow:∀id c,h0.get id=some c→h.get id=some c:=fun id c q=>by rw[bk.low id (h0.lt id c q)];exact q
 have hld:=ha2 h hlow
 have hw2:IntKind.wrap .i64 ((p.length:Int)+1)=p.length+1:=s8 (by omega) (by omega)
 refine⟨?_,⟨bk.get,bk.fl,bk.fb,bk.nx,bk.low,fun n hn=> ?_,fun n hn=> ?_,bk.nb,bk.JO⟩⟩
 · simp only[I]at *
   simp [AP.f41L1,aK,au,aM,ai,ah,ha1,hld,hN,hw2]
 · rw[bk.Ie n hn,yG,if_neg (by omega)];simp
 · have:=bk.own n hn
   rw[zg,if_neg (by omega),QY];exact this
theorem Ds (h0 : H) (b : Nat) (x : AV) (l : List Int) (hl : l.length < 100000) (hr : ∀ y ∈ l, 0 ≤ y ∧ y < 16) (hx : Rd h0 x (ints l)) : ∀ (m : Nat) (p q : List Int) (C : Nat → AV) (h : H), l = p ++ q → q.length = m → Bk h0 h b C p →
 ∃h' C' e',Lp AP.A [3,10,11,12] AP.f41L1 [(3,.aC b 0),(10,x),(11,I l.length),(12,I p.length)] h=some (.exit 0,e',h')∧look e' 3=.aC b 0∧Bk h0 h' b C' l∧∀i,(i<16∨i=48)→C' i=C i
 | 0, p, [], C, h, hpq, _, bk => by
   refine⟨h,C, ?_⟩
   have:l=p:=by simpa using hpq
   subst this
   refine⟨_,sJ (e':=[(3,.aC b 0),(10,x),(11,I l.length),(12,I l.length),(13,.bool false)]) ?_,rfl,bk,fun _ _=>rfl⟩
   simp [AP.f41L1,aK,au,ai,ah,I]
 | m + 1, p, y :: q, C, h, hpq, hm, bk => by
   have hmem:y∈l:=by rw[hpq];simp
   obtain⟨h1,h2⟩:=hr y hmem
   have hget:l[p.length]?=some y:=by rw[hpq];simp
   have hel:=hx.elem (sf hget)
   have hlen:p.length<l.length:=(um.1 hget).1
   obtain⟨n,rfl⟩:=QN h1
   have next:∃h' C',aK (aQ AP.A) bo AP.f41L1 [(3,.aC b 0),(10,x),(11,I l.length),(12,I p.length)] h=some (.normal,[(3,.aC b 0),(10,x),(11,I l.length),(12,I (p.length+1))],h')∧Bk h0 h' b C' (p++[(n:Int)])∧∀i,(i<16∨i=48)→C' i=C i:=by
    by_cases hn:n=0
    · subst hn
      have z:=HX h0 h b C p x l.length bk (by omega) hel (by omega)
      exact⟨h,C,z.1,z.2,fun _ _=>rfl⟩
    · exact HW h0 h b C p n x l.length bk (by omega) (by omega) (by omega) hel (by omega)
   obtain⟨h',C',s1,bk',hC'⟩:=next
   have ih:=Ds h0 b x l hl hr hx m (p++[(n:Int)]) q C' h' (by rw[hpq];simp) (by simpa using hm) bk'
   obtain⟨h2,C2,e2,k1,k2,k3,k4⟩:=ih
   exact⟨h2,C2,e2,sK s1 (by simpa using k1),k2,k3,fun i hi=>by rw[k4 i hi,hC' i hi]⟩
def u4 (l:List Int):Nat→Int
 |0=>0
 |n+1=>(u4 l n+wh l n)* 2
def vg (l:List Int):Nat→Int
 |0=>1
 |n+1=>vg l n* 2-wh l (n+1)
theorem AD {l:List Int} (hl:l.length<100000) (n:Nat):0≤u4 l n∧u4 l n≤200000* 2^n-200000:=by
 induction n with
 |zero=>simp [u4]
 |succ n ih=>have:=zu l n;simp only[u4,Int.pow_succ];omega
theorem I3 {l:List Int} (hl:l.length<100000) (n:Nat): -(200000* 2^n-100000)≤vg l n∧vg l n≤2^n:=by
 induction n with
 |zero=>simp [vg]
 |succ n ih=>have:=zu l (n+1);simp only[vg,Int.pow_succ];omega
theorem AQ {m:Nat} (hm:m≤15):(2:Int)^m≤32768:=by
 have h:(2:Nat)^m≤2^15:=QX (by omega) hm
 have h2:((2^m:Nat):Int)≤((2^15:Nat):Int):=Int.ofNat_le.2 h
 simpa using h2
theorem Bk.put {h0 h:H} {b:Nat} {C:Nat→AV} {p:List Int} (bk:Bk h0 h b C p) {i:Nat} (hi:i<16∨i=48) (v:AV):Bk h0 (h.set b (mX 49 (tF C i v))) b (tF C i v) p:=by
 have c:∀j,16≤j→j<48→tF C i v j=C j:=fun j h1 h2=>by rw[tF,if_neg (by omega)]
 have hbn:b<h.next:=h.lt _ _ bk.get
 refine⟨by rw[H.dd,if_pos rfl,bk.get];rfl,by simp [bk.fl],bk.fb,by simp [bk.nx],fun id hid=> ?_,fun n hn=> ?_,fun n hn=> ?_,fun n hn=> ?_,fun n m hn hm hne k hk=> ?_⟩
 · have:=bk.fb
   rw[H.dd,if_neg (by omega)];exact bk.low id hid
 · rw[c _ (by omega) (by omega)];exact bk.Ie n hn
 · rw[c _ (by omega) (by omega)]
   refine(bk.own n hn).mono (by simp) fun k hk=> ?_
   rw[H.dd,if_neg];intro (e:k=b);exact bk.nb n hn (e ▸ hk)
 · rw[c _ (by omega) (by omega)];exact bk.nb n hn
 · rw[c _ (by omega) (by omega)]at hk ⊢;exact bk.JO n m hn hm hne k hk
set_option maxHeartbeats 1000000 in
theorem Gi (h0 h:H) (b:Nat) (C:Nat→AV) (l:List Int) (m:Nat) (bk:Bk h0 h b C l) (hl:l.length<100000) (hm:m<15) (hc:C 48=I (vg l m)):
 aK (aQ AP.A) bo AP.f41L0 [(3,.aC b 0),(6,I (u4 l m)),(7,I (m+1))] h=
  some (.normal,[(3,.aC b 0),(6,I (u4 l (m+1))),(7,I (m+1+1))],(h.set b (mX 49 (tF C (m+1) (I (u4 l (m+1)))))).set b (mX 49 (tF (tF C (m+1) (I (u4 l (m+1)))) 48 (I (vg l (m+1)))))):=by
 have hp:=AQ (m:=m) (by omega)
 have hf:=AD hl m
 have hlf:=I3 hl m
 have c1:=zu l m
 have c2:=zu l (m+1)
 have w1:IntKind.wrap .i64 (m:Int)=m:=s8 (by omega) (by omega)
 have w2:IntKind.wrap .i64 (u4 l m+wh l m)=u4 l m+wh l m:=s8 (by omega) (by omega)
 have w3:IntKind.wrap .i64 ((u4 l m+wh l m)* 2)=u4 l (m+1):=s8 (by omega) (by omega)
 have w4:IntKind.wrap .i64 (vg l m* 2)=vg l m* 2:=s8 (by omega) (by omega)
 have w5:IntKind.wrap .i64 (vg l m* 2-wh l (m+1))=vg l (m+1):=s8 (by omega) (by omega)
 have w6:IntKind.wrap .i64 ((m:Int)+1+1)=m+1+1:=s8 (by omega) (by omega)
 have x1:cG (I m) 16=some m:=jV (by omega)
 have x2:cG (I (m+1)) 16=some (m+1):=jV (i:=m+1) (by omega)
 have g1:(mX 49 C)[16+m]?=some (I (wh l m)):=by rw[fy (by omega),bk.Ie m (by omega)]
 obtain⟨C1,e1⟩:∃D,D=tF C (m+1) (I (u4 l (m+1))):=⟨_,rfl⟩
 have s1:(mX 49 C).set (m+1) (I (u4 l (m+1)))=mX 49 C1:=by rw[e1];exact s7 (by omega) _
 have g2:(mX 49 C1)[16+(m+1)]?=some (I (wh l (m+1))):=by rw[fy (by omega),e1,tF,if_neg (by omega),bk.Ie (m+1) (by omega)]
 have g3:(mX 49 C1)[48]?=some (I (vg l m)):=by rw[fy (by omega),e1,tF,if_neg (by omega),hc]
 have g4:C1 48=I (vg l m):=by rw[e1,tF,if_neg (by omega),hc]
 have s2:(mX 49 C1).set 48 (I (vg l (m+1)))=mX 49 (tF C1 48 (I (vg l (m+1)))):=s7 (by omega) _
 have hfb:h.floor≤b:=by rw[bk.fl];exact bk.fb
 have ge:(h.set b (mX 49 C1)).get b=some (mX 49 C1):=by rw[H.dd,if_pos rfl,bk.get];rfl
 have b1:m+1≤48:=by omega
 have b3:m≤47:=by omega
 have b4:m≤14:=by omega
 have b2:(m:Int)+1≤15:=by omega
 rw[←e1]
 simp only[I]at *
 simp [AP.f41L0,aK,au,aM,ai,ah,bk.get,w1,w2,w3,w4,w5,w6,x1,x2,g1,g2,g3,g4,s1,s2,hfb,ge,b1,b2,b3,b4]
theorem Cn (h0:H) (b:Nat) (l:List Int) (hl:l.length<100000):∀(k m:Nat) (C:Nat→AV) (h:H),m+k=15→Bk h0 h b C l→C 48=I (vg l m)→(∀i,i≤m→C i=I (u4 l i))→
 ∃h' C' e',Lp AP.A [3,6,7] AP.f41L0 [(3,.aC b 0),(6,I (u4 l m)),(7,I (m+1))] h=some (.exit 2,e',h')∧look e' 3=.aC b 0∧Bk h0 h' b C' l∧C' 48=I (vg l 15)∧∀i,i≤15→C' i=I (u4 l i)
 | 0, m, C, h, hk, bk, hc, hf => by
   obtain rfl:m=15:=by omega
   refine⟨h,C,[(3,.aC b 0),(6,I (u4 l 15)),(7,I 16),(45,.bool false)],sJ ?_,rfl,bk,hc,hf⟩
   have e:((15:Nat):Int)+1=16:=rfl
   rw[e]
   simp [AP.f41L0,aK,au,ai,ah,I]
 | k + 1, m, C, h, hk, bk, hc, hf => by
   have st:=Gi h0 h b C l m bk hl (by omega) hc
   have bk1:=(bk.put (i:=m+1) (.inl (by omega)) (I (u4 l (m+1)))).put (i:=48) (.inr rfl) (I (vg l (m+1)))
   obtain⟨h',C',e',k1,k2⟩:=Cn h0 b l hl k (m+1) _ _ (by omega) bk1 (by simp [tF]) (fun i hi=>by
    rw[tF,if_neg (by omega),tF]
    by_cases e:i=m+1
    · rw[if_pos e,e]
    · rw[if_neg e];exact hf i (by omega))
   exact⟨h',C',e',sK st (by simpa using k1),k2⟩
def yC (l:List AV):AV:=if l=[]then .aO else .aU false l 0 l.length 1
def v7 (l:List Int):Nat→AV:=fun i=>if i<16 then I (u4 l i)else if i<32 then I (wh l (i-16))else if i<48 then yC (ints (syms l (i-32)))else I (vg l 15)
def vn (l:List Int):AV:=.aJ (mX 49 (v7 l)) 0
theorem Kc {f:AV→Option AV} {C D:Nat→AV}:∀(n:Nat),(∀i,i<n→f (C i)=some (D i))→fm f (mX n C)=some (mX n D):=by
 have key:∀(l:List Nat),(∀i∈l,f (C i)=some (D i))→fm f (l.map C)=some (l.map D):=by
  intro l
  induction l with
  |nil=>intro _;rfl
  |cons i l ih=>intro h;simp [fm,h i (by simp),ih (fun j hj=>h j (by simp [hj]))]
 exact fun n h=>key _ fun i hi=>h i (List.mem_range.1 hi)
theorem wR (g:Nat→Option (List AV)) (fl n:Nat) (t:Bool):∀l:List Int,fm (snap g fl (n+1) t) (ints l)=some (ints l)
 |[]=>rfl
 | x :: l => by
   have:=wR g fl n t l
   simp only[ints,QO,fm]at this ⊢
   rw[this];rfl
theorem Jt {h:H} {v:AV} {cs:List AV} {fl n:Nat} (o:mV h v cs) (hf:fl≤h.floor) (hm:fm (snap h.get fl (n+1) false) cs=some cs):snap h.get fl (n+2) false v=some (yC cs):=by
 rcases o with ⟨rfl,rfl⟩|⟨id,rfl,hg,hfl,hne⟩
 · rfl
 · have h1:¬id<fl:=by omega
   simp only[snap,if_neg h1,hg,uo,uC,Nat.mul_one,QZ,List.take_length,uv,if_true,hm,yC,if_neg hne]
def C0:Nat→AV:=fun i=>if i<32 then I 0 else if i<48 then .aO else I 1
set_option maxHeartbeats 1000000 in
theorem yN (h : H) (x : AV) (l : List Int) (hl : l.length < 100000) (hr : ∀ y ∈ l, 0 ≤ y ∧ y < 16) (hx : Rd h x (ints l)) : aQ AP.A 41 [x] h = some (vn l, h) := by
 have hb0:Bk h (h.dG.alloc (mX 49 C0)) h.next C0 []:=by
  refine⟨by simp [H.aV],by simp,uv _,by simp,fun id hid=> ?_,fun n hn=> ?_,fun n hn=> ?_,fun n hn=> ?_,fun n m hn hm hne i hi=> ?_⟩
  · rw[H.aV,if_neg (by simp;omega)];rfl
  · simp only[C0,wh,List.countP_nil];rw[if_pos (by omega)];simp
  · simp only[C0];rw[if_neg (by omega),if_pos (by omega)]
    exact .inl ⟨rfl,by unfold syms;split<;>rfl⟩
  · simp only[C0];rw[if_neg (by omega),if_pos (by omega)];exact nofun
  · simp only[C0]at hi;rw[if_neg (by omega),if_pos (by omega)]at hi;cases hi
 obtain⟨h1,D1,e1,k1,k2,bk1,k3⟩:=Ds h h.next x l hl hr hx l.length [] l C0 _ rfl rfl hb0
 obtain⟨h2,D2,e2,k4,k5,bk2,k6,k7⟩:=Cn h h.next l hl 15 0 D1 h1 rfl bk1 (by rw[k3 48 (.inr rfl)];rfl) (fun i hi=>by
  obtain rfl:i=0:=by omega
  rw[k3 0 (.inl (by omega))];rfl)
 have kx:aK (aQ AP.A) bo AP.f41.body (params 0 [x]) h.dG=some (.ret,[(2,.aC h.next 0)],h2):=by
  unfold AP.f41
  refine tR (e1:=[(0,x)]) (h1:=h.dG) rfl ?_
  refine tR (e1:=[(0,x),(3,.aC h.next 0)]) (h1:=h.dG.alloc (mX 49 C0)) rfl ?_
  refine tR (e1:=[(3,.aC h.next 0)]) (h1:=h1) ?_ ?_
  · refine tR (e1:=[(3,.aC h.next 0),(10,x),(11,I l.length),(12,I 0)]) (h1:=h.dG.alloc (mX 49 C0)) ?_ ?_
    · simp [aK,au,ai,ah,hx.len,I]
    · have:=pN (k:=[3]) k1
      simp only[qJ,qZ,k2]at this
      exact this
  refine tR (e1:=[(3,.aC h.next 0),(6,I 0)]) (h1:=h1) rfl ?_
  refine tR (e1:=[(3,.aC h.next 0)]) (h1:=h2) ?_ ?_
  · refine tR (e1:=[(3,.aC h.next 0),(6,I 0),(7,I 1)]) (h1:=h1) rfl ?_
    have:=pN (k:=[3]) k4
    simp only[qJ,qZ,k5]at this
    exact this
  exact tR (e1:=[(2,.aC h.next 0)]) (h1:=h2) rfl rfl
 have hsn:snap h2.get h.next 16 true (.aC h.next 0)=some (vn l):=by
  have hm:fm (snap h2.get h.next 15 false) (mX 49 D2)=some (mX 49 (v7 l)):=by
   refine Kc 49 fun i hi=> ?_
   by_cases c1:i<16
   · rw[k7 i (by omega),v7,if_pos c1];rfl
   by_cases c2:i<32
   · have:=bk2.Ie (i-16) (by omega)
     rw[show 16+(i-16)=i by omega]at this
     rw[this,v7,if_neg c1,if_pos c2];rfl
   by_cases c3:i<48
   · have:=bk2.own (i-32) (by omega)
     rw[show 32+(i-32)=i by omega]at this
     rw[v7,if_neg c1,if_neg c2,if_pos c3]
     exact Jt (n:=13) this (by rw[bk2.fl];exact uv _) (wR _ _ _ _ _)
   · obtain rfl:i=48:=by omega
     rw[k6,v7,if_neg c1,if_neg c2,if_neg c3];rfl
  simp only[snap,if_neg (Nat.lt_irrefl _),bk2.get,uo,hm,vn]
 exact tB (fn:=AP.f41) rfl rfl rfl kx rfl hsn
theorem xu (w n:Nat) (h:n<2^w):(BitVec.ofInt w (n:Int)).toNat=n:=by
 rw[BitVec.ofInt_natCast,BitVec.toNat_ofNat,Nat.mod_eq_of_lt h]
theorem uX {n:Nat} (h:n<9223372036854775808):IntKind.wrap .i64 (n:Int)=n:=s8 (by omega) (by omega)
theorem wrap_u8 {n:Nat} (h:n<256):IntKind.wrap .u8 (n:Int)=n:=by
 have e:IntKind.wrap .u8 (n:Int)=(n:Int)%256:=by simp [IntKind.wrap,IntKind.bits,IntKind.signed]
 rw[e];omega
theorem JV {a b:Nat} (ha:a<9223372036854775808) (hb:b<9223372036854775808):bits .or .i64 (a:Int) (b:Int)=((a|||b:Nat):Int):=by
 have h1:a<2^63:=by simpa using ha
 have h2:b<2^63:=by simpa using hb
 have h3:a|||b<2^63:=Nat.or_lt_two_pow h1 h2
 show IntKind.wrap .i64 (((BitVec.ofInt 64 (a:Int)|||BitVec.ofInt 64 (b:Int)).toNat:Nat):Int)=_
 rw[BitVec.toNat_or,xu 64 a (by omega),xu 64 b (by omega)]
 exact uX (by simpa using h3)
theorem HD {a b:Nat} (ha:a<256) (hb:b<256):bits .and .u8 (a:Int) (b:Int)=((a&&&b:Nat):Int):=by
 have h3:a&&&b<2^8:=Nat.and_lt_two_pow _ (by simpa using hb)
 show IntKind.wrap .u8 (((BitVec.ofInt 8 (a:Int)&&&BitVec.ofInt 8 (b:Int)).toNat:Nat):Int)=_
 rw[BitVec.toNat_and,xu 8 a (by omega),xu 8 b (by omega)]
 exact wrap_u8 (by simpa using h3)
theorem Ja {x b i:Nat} (hx:x<2^i):x|||b* 2^i=x+b* 2^i:=by
 have:=Nat.two_pow_add_eq_or_of_lt hx b
 rw[Nat.or_comm,Nat.mul_comm b,←this,Nat.add_comm]
@[simp] theorem Im {k j : IntKind} {a b : Int} : bh .shr (.int k a) (.int j b) = oM .shr k a b := rfl
@[simp] theorem Il {k j : IntKind} {a b : Int} : bh .shl (.int k a) (.int j b) = oM .shl k a b := rfl
attribute [go_sem] Il Im
theorem Np {a s:Nat} (hs:s≤8):oM .shr .u8 (a:Int) (s:Int)=some (.int .u8 ((a/2^s:Nat):Int)):=by
 unfold oM
 rw[if_neg (by omega)]
 simp only[IntKind.bits,Int.toNat_natCast,Nat.min_eq_left hs]
 congr 2
 rw[Int.fdiv_eq_ediv_of_nonneg _ (Int.pow_nonneg (by omega))]
 simp
theorem Av {a s:Nat} (hs:s≤64) (h:a* 2^s<9223372036854775808):oM .shl .i64 (a:Int) (s:Int)=some (.int .i64 ((a* 2^s:Nat):Int)):=by
 unfold oM
 rw[if_neg (by omega)]
 simp only[IntKind.bits,Int.toNat_natCast,Nat.min_eq_left hs]
 congr 2
 rw[←uX h];simp
def wA (s:ByteArray) (p:Nat):Nat:=((s[p/8]?).map (·.toNat)).getD 0/2^(p%8)%2
theorem EE (s:ByteArray) (p:Nat):wA s p≤1:=by unfold wA;omega
def u2 (s:ByteArray) (p:Nat):Nat→Nat
 |0=>0
 |n+1=>u2 s p n+wA s (p+n)* 2^n
theorem wx (s:ByteArray) (p:Nat):∀n,u2 s p n<2^n
 |0=>by simp [u2]
 | n + 1 => by
   have h:=wx s p n
   have b:=EE s (p+n)
   have hb:wA s (p+n)=0∨wA s (p+n)=1:=by omega
   rw[u2,Nat.pow_succ]
   rcases hb with hb|hb<;>rw[hb]<;>omega
theorem yU (l:List Int) (n:Nat):(syms l n).length=wh l n:=by
 have key:∀(l:List Int) (k:Nat),((l.zipIdx k).filterMap fun p=>if p.1=(n:Int)then some (p.2:Int)else none).length=l.countP (fun x=>x==(n:Int)):=by
  intro l
  induction l with
  |nil=>intro k;rfl
  | cons x l ih =>
    intro k
    rw[List.zipIdx_cons,List.filterMap_cons,List.countP_cons]
    by_cases h:x=(n:Int)
    · simp only[if_pos h,QG,ih (k+1)];simp [h]
    · simp only[if_neg h,ih (k+1)];simp [h]
 unfold syms wh
 split
 · rfl
 · exact key l 0
def wM (l:List Int) (n:Nat) (v:Int):Option Int:=if u4 l n≤v then(syms l n)[(v-u4 l n).toNat]? else none
set_option maxHeartbeats 1000000 in
theorem Mc (h:H) (l:List Int) (hl:l.length<100000) (n:Nat) (hn1:1≤n) (hn:n≤15) (v:Int) (hv0:0≤v) (hv:v<1000000):
 aQ AP.A 72 [vn l,I n,I v] h=some (match wM l n v with|some y=>.bJ [I y,.bool true]|none=>.bJ [I 0,.bool false],h):=by
 have hp:=AQ hn
 have hf:=AD hl n
 have hc:=zu l n
 have hsc:=yU l n
 have c1:¬((n:Int)<1):=by omega
 have c2:¬(15:Int)<n:=by omega
 have a1:cG (I n) 16=some n:=jV (by omega)
 have e1:v7 l n=I (u4 l n):=by rw[v7,if_pos (by omega)]
 have e2:v7 l (16+n)=I (wh l n):=by rw[v7,if_neg (by omega),if_pos (by omega),show 16+n-16=n by omega]
 have e3:v7 l (32+n)=yC (ints (syms l n)):=by rw[v7,if_neg (by omega),if_neg (by omega),if_pos (by omega),show 32+n-32=n by omega]
 have g1:(mX 49 (v7 l))[n]?=some (I (u4 l n)):=by rw[fy (by omega),e1]
 have g2:(mX 49 (v7 l))[16+n]?=some (I (wh l n)):=by rw[fy (by omega),e2]
 have g3:(mX 49 (v7 l))[32+n]?=some (yC (ints (syms l n))):=by rw[fy (by omega),e3]
 have hb:vn l=.aJ (mX 49 (v7 l)) 0:=rfl
 rw[hb]
 clear hb e1 e2 e3
 generalize mX 49 (v7 l)=T at g1 g2 g3 ⊢
 by_cases k1:v<u4 l n
 · have:wM l n v=none:=by rw[wM,if_neg (by omega)]
   rw[this]
   refine sY (fn:=AP.f72) (e:=[(6,I 0),(7,.bool false)]) rfl rfl rfl ?_ rfl
   simp only[I]at *
   simp only[AP.f72,go_sem,QJ c1,QJ c2,a1,g1,QL k1]
 have w1:IntKind.wrap .i64 (v-u4 l n)=v-u4 l n:=s8 (by omega) (by omega)
 by_cases k2:(wh l n:Int)≤v-u4 l n
 · have:wM l n v=none:=by rw[wM,if_pos (by omega),QT (by omega)]
   rw[this]
   refine sY (fn:=AP.f72) (e:=[(6,I 0),(7,.bool false)]) rfl rfl rfl ?_ rfl
   simp only[I]at *
   simp only[AP.f72,go_sem,QJ c1,QJ c2,a1,g1,g2,QJ k1,w1,QL k2]
 · obtain⟨i,hi⟩:∃i:Nat,v-u4 l n=i:=QN (by omega)
   have hil:i<(syms l n).length:=by omega
   obtain⟨y,hy⟩:∃y,(syms l n)[i]?=some y:=⟨_,QH hil⟩
   have:wM l n v=some y:=by rw[wM,if_pos (by omega),hi,Int.toNat_natCast,hy]
   rw[this]
   have hne:ints (syms l n)≠[]:=by intro e;have:=Rh List.length e;simp at this;simp [this]at hil
   have hs:yC (ints (syms l n))=.aU false (ints (syms l n)) 0 (ints (syms l n)).length 1:=by rw[yC,if_neg hne]
   rw[hs]at g3
   have a2:fB 1 (.aU false (ints (syms l n)) 0 (ints (syms l n)).length 1) (I i)=some (.aJ (ints (syms l n)) i):=by
    simp [fB,jV (show i<(syms l n).length from hil)]
   have g4:=sf hy
   rw[hi]at w1 k2
   refine sY (fn:=AP.f72) (e:=[(6,I y),(7,.bool true)]) rfl rfl rfl ?_ rfl
   simp only[I]at *
   simp only[AP.f72,go_sem,QJ c1,QJ c2,a1,g1,g2,QJ k1,hi,w1,QJ k2,g3,a2,g4]
attribute [local congr] sL
theorem ye (a b:Nat):Int.tdiv (a:Int) (b:Int)=((a/b:Nat):Int):=by simp
theorem CK (a b:Nat):Int.tmod (a:Int) (b:Int)=((a%b:Nat):Int):=by rw[Int.tmod_eq_emod_of_nonneg (by omega)];simp
theorem JZ {s:ByteArray} {i:Nat} (h:i<s.size):∃b:UInt8,s[i]?=some b:=⟨s[i],by simp [h]⟩
set_option maxHeartbeats 1000000 in
theorem IQ (h:H) (r:Nat) (s:ByteArray) (p x i n:Nat) (hg:h.get r=some [.str s,I p]) (hf:h.floor≤r) (hp:p<8* s.size) (hs:s.size<1125899906842624) (hx:x<2^i) (hi:i<n) (hn:n≤16):
 aK (aQ AP.A) bo AP.f58L0 [(0,.aC r 0),(6,I x),(32,I n),(33,I i)] h=some (.normal,[(0,.aC r 0),(6,I (x+wA s p* 2^i:Nat)),(32,I n),(33,I (i+1:Nat))],h.set r [.str s,I (p+1:Nat)]):=by
 obtain⟨b,hb⟩:=JZ (s:=s) (i:=p/8) (by omega)
 have hb8:b.toNat<256:=b.toNat_lt
 have hbit:wA s p=b.toNat/2^(p%8)%2:=by simp [wA,hb]
 have t1:Int.tdiv (p:Int) 8=((p/8:Nat):Int):=ye p 8
 have t2:Int.tmod (p:Int) 8=((p%8:Nat):Int):=CK p 8
 have w1:IntKind.wrap .i64 ((p/8:Nat):Int)=((p/8:Nat):Int):=uX (by omega)
 have a1:cG (I (p/8:Nat)) s.size=some (p/8):=jV (by omega)
 have s1:oM .shr .u8 (b.toNat:Int) ((p%8:Nat):Int)=some (.int .u8 ((b.toNat/2^(p%8):Nat):Int)):=Np (by omega)
 have hlt:b.toNat/2^(p%8)<256:=Nat.lt_of_le_of_lt (Nat.div_le_self _ _) hb8
 have n1:bits .and .u8 ((b.toNat/2^(p%8):Nat):Int) 1=((wA s p:Nat):Int):=by
  have:=HD (b:=1) hlt (by omega)
  rw[Nat.and_one_is_mod]at this
  rw[hbit];exact this
 have hbl:=EE s p
 have w2:IntKind.wrap .i64 ((wA s p:Nat):Int)=((wA s p:Nat):Int):=uX (by omega)
 have hpow:(2:Nat)^i≤2^16:=QX (by omega) (by omega)
 have hmul:wA s p* 2^i≤2^i:=by
  have:=uy (2^i) hbl;simpa using this
 have s2:oM .shl .i64 ((wA s p:Nat):Int) (i:Int)=some (.int .i64 ((wA s p* 2^i:Nat):Int)):=Av (by omega) (by omega)
 have o1:bits .or .i64 (x:Int) ((wA s p* 2^i:Nat):Int)=((x+wA s p* 2^i:Nat):Int):=by
  rw[JV (by omega) (by omega),Ja hx]
 have w3:IntKind.wrap .i64 ((p:Int)+1)=((p+1:Nat):Int):=uX (n:=p+1) (by omega)
 have w4:IntKind.wrap .i64 ((i:Int)+1)=((i+1:Nat):Int):=uX (n:=i+1) (by omega)
 generalize hB:wA s p=B at *
 generalize hD:b.toNat/2^(p%8)=D at *
 generalize hE:p/8=E at *
 generalize hF:p%8=F at *
 generalize hO:x+B* 2^i=O at *
 generalize hM:B* 2^i=W at *
 simp only[I]at *
 simp [AP.f58L0,aK,au,aM,ai,ah,hg,rk,rq,t1,t2,w1,lG,a1,hb,s1,n1,w2,s2,o1,w3,w4,hi,hf]
theorem EZ (r:Nat) (s:ByteArray) (p n:Nat) (hs:s.size<1125899906842624) (hp:p+n≤8* s.size) (hn:n≤16):∀(k i:Nat) (h:H),i+k=n→h.get r=some [.str s,I (p+i:Nat)]→h.floor≤r→
 ∃e',Lp AP.A [0,6,32,33] AP.f58L0 [(0,.aC r 0),(6,I (u2 s p i:Nat)),(32,I n),(33,I i)] h=some (.exit 1,e',h.set r [.str s,I (p+n:Nat)])∧look e' 6=I (u2 s p n:Nat)
 | 0, i, h, hk, hg, hf => by
   obtain rfl:i=n:=by omega
   refine⟨[(0,.aC r 0),(6,I (u2 s p i:Nat)),(32,I i),(33,I i),(34,.bool false)],sJ ?_,rfl⟩
   rw[H.jh hg]
   simp [AP.f58L0,aK,au,ai,ah,I]
 | k + 1, i, h, hk, hg, hf => by
   have st:=IQ h r s (p+i) (u2 s p i) i n hg hf (by omega) hs (wx s p i) (by omega) hn
   obtain⟨e',k1,k2⟩:=EZ r s p n hs hp hn k (i+1) (h.set r [.str s,I (p+i+1:Nat)]) (by omega) (by rw[H.dd,if_pos rfl,hg];rfl) (by simpa using hf)
   rw[H.set_set]at k1
   exact⟨e',sK st k1,k2⟩
theorem M6 (h:H) (r:Nat) (s:ByteArray) (p n:Nat) (hg:h.get r=some [.str s,I p]) (hf:h.floor≤r) (hs:s.size<1125899906842624) (hp:p+n≤8* s.size) (hn:n≤16):
 aQ AP.A 58 [.aC r 0,I n] h=some (.bJ [I (u2 s p n:Nat),I 0],h.set r [.str s,I (p+n:Nat)]):=by
 obtain⟨e',k1,k2⟩:=EZ r s p n hs hp hn n 0 h (by omega) hg hf
 have l1:=pN (k:=[6]) k1
 simp only[qJ,qZ,k2]at l1
 have c0:¬(n:Int)<0:=by omega
 have c1:¬(16:Int)<n:=by omega
 have w1:IntKind.wrap .i64 (8* (s.size:Int))=((8* s.size:Nat):Int):=uX (n:=8* s.size) (by omega)
 have w2:IntKind.wrap .i64 (((8* s.size:Nat):Int)-p)=((8* s.size-p:Nat):Int):=by
  rw[←Int.ofNat_sub (by omega)];exact uX (by omega)
 have c2:¬((8* s.size-p:Nat):Int)<n:=by omega
 refine sY (fn:=AP.f58) (e:=[(4,I (u2 s p n:Nat)),(5,I 0)]) rfl rfl rfl ?_ rfl
 unfold AP.f58
 refine tR (e1:=[(0,.aC r 0),(1,I n)]) (h1:=h) rfl ?_
 refine tR (e1:=[(0,.aC r 0),(1,I n)]) (h1:=h) ?_ ?_
 · generalize hM:8* s.size-p=W at *
   generalize hM2:8* s.size=W2 at *
   simp only[I]at *
   simp [aK,au,aM,ai,ah,fj,oR,hg,iG,w1,w2,c0,c1,c2]
 refine tR (e1:=[(0,.aC r 0),(1,I n),(6,I 0)]) (h1:=h) rfl ?_
 refine tR (e1:=[(6,I (u2 s p n:Nat))]) (h1:=h.set r [.str s,I (p+n:Nat)]) ?_ ?_
 · refine tR (e1:=[(0,.aC r 0),(6,I 0),(32,I n),(33,I 0)]) (h1:=h) rfl ?_
   exact l1
 exact tR (e1:=[(4,I (u2 s p n:Nat)),(5,I 0)]) (h1:=h.set r [.str s,I (p+n:Nat)]) rfl rfl
theorem J7 (h:H) (r:Nat) (s:ByteArray) (p n:Nat) (hg:h.get r=some [.str s,I p]) (hs:s.size<1125899906842624) (hp0:p≤8* s.size) (hp:8* s.size<p+n) (hn:n≤16):
 aQ AP.A 58 [.aC r 0,I n] h=some (.bJ [I 0,I 101],h):=by
 have c0:¬(n:Int)<0:=by omega
 have c1:¬(16:Int)<n:=by omega
 have w1:IntKind.wrap .i64 (8* (s.size:Int))=((8* s.size:Nat):Int):=uX (n:=8* s.size) (by omega)
 have w2:IntKind.wrap .i64 (((8* s.size:Nat):Int)-p)=((8* s.size-p:Nat):Int):=by
  rw[←Int.ofNat_sub (by omega)];exact uX (by omega)
 have c2:((8* s.size-p:Nat):Int)<n:=by omega
 refine sY (fn:=AP.f58) (e:=[(4,I 0),(5,I 101)]) rfl rfl rfl ?_ rfl
 unfold AP.f58
 refine tR (e1:=[(0,.aC r 0),(1,I n)]) (h1:=h) rfl ?_
 refine tS ?_
 generalize hM:8* s.size-p=W at *
 generalize hM2:8* s.size=W2 at *
 simp only[I]at *
 simp [aK,au,aM,ai,ah,fj,oR,hg,iG,w1,w2,c0,c1,c2]
attribute [local congr] sL
theorem vJ {A:a7} {f:Nat} {fn:eO} {args:List AV} {h h2:H} {e:Env} {vs:List AV} (hf:A f=some fn) (hnp:args.length=fn.np) (hp:fn.pure=false)
 (hx:aK (aQ A) bo fn.body (params 0 args) h=some (.normal,e,h2)) (hres:cm e h2 fn.res=some vs):aQ A f args h=some (cZ vs,h2):=by
 refine j0 hf ?_
 unfold eM
 rw[if_pos hnp]
 simp [hp,hx,fin,hres]
def xI (l:List Nat):List AV:=l.map fun (b:Nat)=>AV.int .u8 (b:Int)
@[simp] theorem yk (l : List Nat) : (xI l).length = l.length := by simp [xI]
structure SS where
 at_:Nat
 out:List Nat
 e:Int
structure SC where
 s:Nat
 r:Nat
 text:ByteArray
 most:Int
structure St (c:SC) (S:SS) (h:H) (ov:AV):Prop where
 gs:h.get c.s=some [.aC c.r 0,ov,I c.most,I S.e]
 gr:h.get c.r=some [.str c.text,I S.at_]
 own:mV h ov (xI S.out)
 sr:c.s≠c.r
 fs:h.floor≤c.s
 fr:h.floor≤c.r
 os:ov.id?≠some c.s
 or:ov.id?≠some c.r
 nx:h.floor≤h.next
 sz:c.text.size<1125899906842624
 xS:S.at_≤8* c.text.size
 ol:(S.out.length:Int)≤c.most
 ml:c.most≤900000
structure Fr (c:SC) (h:H) (ov:AV) (h':H) (ov':AV):Prop where
 fl:h'.floor=h.floor
 nx:h.next≤h'.next
 FX:∀id,id<h.next→id≠c.s→id≠c.r→ov.id?≠some id→h'.get id=h.get id
 nb:∀i,ov'.id?=some i→ov.id?=some i∨h.next≤i
theorem Fr.refl (c:SC) (h:H) (ov:AV):Fr c h ov h ov:=⟨rfl,uv _,fun _ _ _ _ _=>rfl,fun _ q=>.inl q⟩
theorem Fr.trans {c:SC} {h1 h2 h3:H} {o1 o2 o3:AV} (a:Fr c h1 o1 h2 o2) (b:Fr c h2 o2 h3 o3):Fr c h1 o1 h3 o3:=by
 refine⟨b.fl.trans a.fl,uP a.nx b.nx,fun id h4 h5 h6 h7=> ?_,fun i hi=> ?_⟩
 · rw[b.FX id (Nat.lt_of_lt_of_le h4 a.nx) h5 h6 (fun q=> ?_),a.FX id h4 h5 h6 h7]
   rcases a.nb id q with q|q
   · exact h7 q
   · omega
 · rcases b.nb i hi with q|q
   · exact a.nb i q
   · exact .inr (uP a.nx q)
theorem St.O9 {c:SC} {S:SS} {h:H} {ov:AV} (st:St c S h ov) (e:Int):St c {S with e:=e} (h.set c.s [.aC c.r 0,ov,I c.most,I e]) ov∧Fr c h ov (h.set c.s [.aC c.r 0,ov,I c.most,I e]) ov:=by
 refine⟨⟨by rw[H.dd,if_pos rfl,st.gs];rfl,by rw[H.dd,if_neg (Ne.symm st.sr)];exact st.gr,st.own.mono (by simp) fun i hi=> ?_,st.sr,by simpa using st.fs,by simpa using st.fr,st.os,st.or,by simpa using st.nx,st.sz,st.xS,st.ol,st.ml⟩,⟨by simp,by simp,fun id h1 h2 h3 h4=>by rw[H.dd,if_neg h2],fun _ q=>.inl q⟩⟩
 rw[H.dd,if_neg];intro (e:i=c.s);exact st.os (e ▸ hi)
theorem St.Nn {c:SC} {S:SS} {h:H} {ov:AV} (st:St c S h ov) {p:Nat} (hp:p≤8* c.text.size):St c {S with at_:=p} (h.set c.r [.str c.text,I p]) ov∧Fr c h ov (h.set c.r [.str c.text,I p]) ov:=by
 refine⟨⟨by rw[H.dd,if_neg st.sr];exact st.gs,by rw[H.dd,if_pos rfl,st.gr];rfl,st.own.mono (by simp) fun i hi=> ?_,st.sr,by simpa using st.fs,by simpa using st.fr,st.os,st.or,by simpa using st.nx,st.sz,hp,st.ol,st.ml⟩,⟨by simp,by simp,fun id h1 h2 h3 h4=>by rw[H.dd,if_neg h3],fun _ q=>.inl q⟩⟩
 rw[H.dd,if_neg];intro (e:i=c.r);exact st.or (e ▸ hi)
def vr (k:Int) (S:SS):SS:=if S.e=0 then {S with e:=k}else S
theorem wE {c:SC} {S:SS} {h:H} {ov:AV} (st:St c S h ov) (k:Int):∃h',aQ AP.A 45 [.aC c.s 0,I k] h=some (.bJ [],h')∧St c (vr k S) h' ov∧Fr c h ov h' ov:=by
 have gs:=st.gs
 have fs:=st.fs
 by_cases he:S.e=0
 · refine⟨_, ?_,by rw[vr,if_pos he];exact(st.O9 k).1,(st.O9 k).2⟩
   refine vJ (fn:=AP.f45) (e:=[]) rfl rfl rfl ?_ rfl
   simp only[I]at *
   simp [AP.f45,params,aK,au,ai,ah,gs,he,fs]
 · refine⟨h, ?_,by rw[vr,if_neg he];exact st,Fr.refl _ _ _⟩
   refine vJ (fn:=AP.f45) (e:=[]) rfl rfl rfl ?_ rfl
   simp only[I]at *
   simp [AP.f45,params,aK,au,ai,ah,gs,he,fs]
def uY (c:SC) (n:Nat) (S:SS):Nat×SS:=if S.at_+n≤8* c.text.size then(u2 c.text S.at_ n,{S with at_:=S.at_+n})else(0,vr 700 S)
theorem IP {c:SC} {S:SS} {h:H} {ov:AV} (st:St c S h ov) {n:Nat} (hn:n≤16):∃h',aQ AP.A 38 [.aC c.s 0,I n] h=some (I ((uY c n S).1:Nat),h')∧St c (uY c n S).2 h' ov∧Fr c h ov h' ov:=by
 have gs:=st.gs
 by_cases hp:S.at_+n≤8* c.text.size
 · have g:=M6 h c.r c.text S.at_ n st.gr st.fr st.sz hp hn
   refine⟨_, ?_,by rw[uY,if_pos hp];exact(st.Nn hp).1,(st.Nn hp).2⟩
   rw[uY,if_pos hp]
   refine sY (fn:=AP.f38) (e:=[(4,I (u2 c.text S.at_ n:Nat))]) rfl rfl rfl ?_ rfl
   simp only[I]at *
   simp [AP.f38,params,aK,au,ai,ah,gs,aW,g]
 · have g:=J7 h c.r c.text S.at_ n st.gr st.sz st.xS (by omega) hn
   obtain⟨h',k1,k2,k3⟩:=wE st 700
   refine⟨h', ?_,by rw[uY,if_neg hp];exact k2,k3⟩
   rw[uY,if_neg hp]
   refine sY (fn:=AP.f38) (e:=[(4,I 0)]) rfl rfl rfl ?_ rfl
   simp only[I]at *
   simp [AP.f38,params,aK,au,ai,ah,gs,aW,g,k1]
def Cw (c:SC) (b:Nat) (S:SS):SS:=
 let T:=if c.most≤S.out.length then vr 701 S else S
 if T.e=0 then {T with out:=T.out++[b]}else T
theorem mV.len {h:H} {v:AV} {cs:List AV} (o:mV h v cs):iG false v=some (I cs.length):=by
 rcases o with ⟨rfl,rfl⟩|⟨id,rfl,_⟩<;>rfl
theorem Jk {c : SC} {S : SS} {h : H} {ov : AV} (st : St c S h ov) {b : Nat} : ∃ h' ov', aQ AP.A 59 [.aC c.s 0, .int .u8 b] h = some (.bJ [], h') ∧ St c (Cw c b S) h' ov' ∧ Fr c h ov h' ov' := by
 have gs0:=st.gs
 have hol:=st.ol
 have hml:=st.ml
 have ln:=st.own.len
 rw[yk]at ln
 by_cases hm:c.most≤S.out.length
 · obtain⟨h1,k1,k2,k3⟩:=wE st 701
   have he:(vr 701 S).e≠0:=by unfold vr;split<;>simp_all
   have hp:Cw c b S=vr 701 S:=by unfold Cw;simp only[if_pos hm,if_neg he]
   have gs1:=k2.gs
   refine⟨h1,ov, ?_,by rw[hp];exact k2,k3⟩
   refine vJ (fn:=AP.f59) (e:=[]) rfl rfl rfl ?_ rfl
   simp only[I]at *
   simp [AP.f59,params,aK,au,aM,ai,ah,gs0,ln,hm,aW,k1,gs1,he]
 by_cases he:S.e=0
 · have hp:Cw c b S={S with out:=S.out++[b]}:=by unfold Cw;simp only[if_neg hm,if_pos he]
   have hsl:c.s<h.next:=h.lt _ _ st.gs
   have hrl:c.r<h.next:=h.lt _ _ st.gr
   obtain⟨h1,eh1⟩:∃g,g=h.alloc [.int .u8 b]:=⟨_,rfl⟩
   have hlo1:∀i,i≠h.next→h1.get i=h.get i:=fun i q=>by rw[eh1,H.aV,if_neg q]
   have hfl1:h1.floor=h.floor:=by rw[eh1];simp
   have hnx1:h1.next=h.next+1:=by rw[eh1];simp
   have ho1:mV h1 ov (xI S.out):=st.own.mono hfl1 fun i hi=>hlo1 i (by have:=st.own.lt hi;omega)
   have hnxf:=st.nx
   obtain⟨v',h2,q1,q2,q3,q4,q5,q6⟩:=ho1.app (by omega) (z:=1) (.int .u8 b) rfl (by simp [roomy];omega)
   have hal2:h1.get h.next=some [.int .u8 b]:=by rw[eh1,H.aV,if_pos rfl]
   have gs1:h1.get c.s=some [.aC c.r 0,ov,I c.most,I S.e]:=by rw[hlo1 _ (by omega)];exact st.gs
   have gs2:h2.get c.s=some [.aC c.r 0,ov,I c.most,I S.e]:=by rw[q5 _ st.os (by omega)];exact gs1
   have gr2:h2.get c.r=some [.str c.text,I S.at_]:=by rw[q5 _ st.or (by omega),hlo1 _ (by omega)];exact st.gr
   have fs2:h2.floor≤c.s:=by have:=st.fs;omega
   have hv':v'.cells=[v']∧v'.sc=true:=by
    rcases q2 with ⟨rfl,_⟩|⟨id,rfl,_⟩<;>exact⟨rfl,rfl⟩
   have hby:xI (S.out++[b])=xI S.out++[.int .u8 b]:=by simp [xI]
   refine⟨h2.set c.s [.aC c.r 0,v',I c.most,I S.e],v', ?_, ?_, ?_⟩
   · refine vJ (fn:=AP.f59) (e:=[]) rfl rfl rfl ?_ rfl
     simp only[I]at *
     simp [AP.f59,params,aK,au,aM,ai,ah,bm,aX,dx,dH,j9,aR,gs0,ln,hm,he,←eh1,hal2,gs1,q1,gs2,fs2,hv'.1,hv'.2]
   · rw[hp]
     refine⟨by rw[H.dd,if_pos rfl,gs2];rfl,by rw[H.dd,if_neg (Ne.symm st.sr)];exact gr2, ?_,st.sr,by simpa using fs2,by have:=st.fr;simp;omega, ?_, ?_,by simp;omega,st.sz,st.xS,by simp;omega,st.ml⟩
     · rw[hby]
       refine q2.mono (by simp) fun i hi=> ?_
       rw[q6]at hi;cases hi
       rw[H.dd,if_neg (by omega)]
     · rw[q6];intro e;have:=ud e;omega
     · rw[q6];intro e;have:=ud e;omega
   · refine⟨by simp;omega,by simp;omega,fun id a1 a2 a3 a4=> ?_,fun i hi=> ?_⟩
     · rw[H.dd,if_neg a2,q5 id a4 (by omega),hlo1 id (by omega)]
     · rw[q6]at hi;cases hi;right;omega
 · have hp:Cw c b S=S:=by unfold Cw;simp only[if_neg hm,if_neg he]
   refine⟨h,ov, ?_,by rw[hp];exact st,Fr.refl _ _ _⟩
   refine vJ (fn:=AP.f59) (e:=[]) rfl rfl rfl ?_ rfl
   simp only[I]at *
   simp [AP.f59,params,aK,au,aM,ai,ah,gs0,ln,hm,he]
theorem Pu (h:H) (s:ByteArray):aQ AP.A 14 [.str s] h=some (.aC h.next 0,h.alloc [.str s,I 0]):=by
 refine sY (fn:=AP.f14) (e:=[(2,.aC h.next 0)]) rfl rfl rfl ?_ rfl
 have b:aX [(4,.agg [.str s,I 0]),(3,.str s),(0,.str s)] (.box 2 (.t 4))=some ([.str s,I 0],fun i=>.aC i 0):=rfl
 have f:dH [.str ⟨#[]⟩,.int .i64 0] [(0,1,.str s)]=some [.str s,I 0]:=rfl
 simp only[I]at *
 simp only[AP.f14,go_sem,QO,Rj,f,b]
theorem JS (h:H) (r:Nat) (s:ByteArray) (p:Nat) (hg:h.get r=some [.str s,I p]) (hf:h.floor≤r) (hs:s.size<1125899906842624) (hp:p≤8* s.size):
 aQ AP.A 16 [.aC r 0] h=some (I 0,h.set r [.str s,I ((p+7)/8* 8:Nat)]):=by
 refine sY (fn:=AP.f16) (e:=[(2,I 0)]) rfl rfl rfl ?_ rfl
 have w1:IntKind.wrap .i64 ((p:Int)+8)=((p+8:Nat):Int):=uX (n:=p+8) (by omega)
 have w2:IntKind.wrap .i64 (((p+8:Nat):Int)-1)=((p+7:Nat):Int):=by
  rw[show((p+8:Nat):Int)-1=((p+7:Nat):Int)by omega];exact uX (by omega)
 have w3:IntKind.wrap .i64 (((p+7:Nat):Int).tdiv 8)=(((p+7)/8:Nat):Int):=by
  rw[show(8:Int)=((8:Nat):Int)from rfl,ye];exact uX (by omega)
 have w4:IntKind.wrap .i64 ((((p+7)/8:Nat):Int)* 8)=(((p+7)/8* 8:Nat):Int):=by
  rw[show(((p+7)/8:Nat):Int)* 8=(((p+7)/8* 8:Nat):Int)by omega];exact uX (by omega)
 have st:∀v,tD h r 1 1 [.int .i64 v] (some [.str s,.int .i64 p])=some (h.set r [.str s,.int .i64 v]):=fun v=>tU hf (by simp) rfl
 have q:bh .quo (.int .i64 ((p+7:Nat):Int)) (.int .i64 8)=some (.int .i64 (((p+7)/8:Nat):Int)):=by rw[rk _ _ _ (by omega),w3]
 simp only[I]at *
 simp only[AP.f16,go_sem,hg,w1,w2,q,w4,st]
theorem Pk (h:H) (r:Nat) (s:ByteArray) (p:Nat) (hg:h.get r=some [.str s,I p]):aQ AP.A 17 [.aC r 0] h=some (I p,h):=by
 refine sY (fn:=AP.f17) (e:=[(2,I p)]) rfl rfl rfl ?_ rfl
 simp only[I]at *
 simp only[AP.f17,go_sem,hg]
theorem xW {c:SC} {S:SS} {h:H} {ov:AV} (st:St c S h ov) (n:Nat) (m:Int) (hm:m=n) (hn:n≤16):∃h',aQ AP.A 38 [.aC c.s 0,I m] h=some (I ((uY c n S).1:Nat),h')∧St c (uY c n S).2 h' ov∧Fr c h ov h' ov:=by
 subst hm;exact IP st hn
theorem Ht {c:SC} {S:SS} {h:H} {ov:AV} (st:St c S h ov) {n least:Nat} (hn:n≤16) (hl:least<100000):∃h',aQ AP.A 73 [.aC c.s 0,I least,I n,I 0] h=some (I ((least+(uY c n S).1:Nat)),h')∧St c (uY c n S).2 h' ov∧Fr c h ov h' ov:=by
 obtain⟨h',k1,k2,k3⟩:=IP st hn
 refine⟨h', ?_,k2,k3⟩
 have hb:(uY c n S).1<65536:=by
  unfold uY;split
  · have:=wx c.text S.at_ n
    have:=QX (show 0<2 by omega) hn
    simp at *;omega
  · simp
 have w:IntKind.wrap .i64 ((least:Int)+((uY c n S).1:Nat))=((least+(uY c n S).1:Nat):Int):=by
  rw[show(least:Int)+((uY c n S).1:Nat)=((least+(uY c n S).1:Nat):Int)by omega];exact uX (by omega)
 refine sY (fn:=AP.f73) (e:=[(8,I ((least+(uY c n S).1:Nat)))]) rfl rfl rfl ?_ rfl
 simp only[I]at *
 simp only[AP.f73,go_sem,k1,w]
theorem DM {c:SC} {S:SS} {h:H} {ov:AV} (st:St c S h ov) (he:S.e=0):∃h' S',aQ AP.A 73 [.aC c.s 0,I 0,I 0,I 600] h=some (I 0,h')∧St c S' h' ov∧Fr c h ov h' ov∧S'.e=700:=by
 obtain⟨h1,k1,k2,k3⟩:=wE st 700
 obtain⟨h',l1,l2,l3⟩:=IP k2 (n:=0) (by omega)
 have hS:vr 700 S={S with e:=700}:=by rw[vr,if_pos he]
 have hle:=st.xS
 have hg:uY c 0 (vr 700 S)=(0,vr 700 S):=by
  rw[uY,if_pos (by rw[hS];exact hle)];rfl
 rw[hg]at l1 l2
 have l1':aQ AP.A 38 [.aC c.s 0,I 0] h1=some (I 0,h'):=l1
 clear l1
 refine⟨h',_, ?_,l2,k3.trans l3,by rw[hS]⟩
 have w:IntKind.wrap .i64 (0+0)=0:=s8 (by omega) (by omega)
 refine sY (fn:=AP.f73) (e:=[(8,I 0)]) rfl rfl rfl ?_ rfl
 simp only[I]at *
 simp only[AP.f73,go_sem,k1,l1',w]
def yd (t:ByteArray) (l:List Int):Nat→Nat→Nat→Nat→Option (Int×Nat)
 |0,_,_,_=>none
 |k+1,n,v,p=>if p+1≤8* t.size then(match wM l n ((v* 2+u2 t p 1:Nat):Int)with|some y=>some (y,p+1)|none=>yd t l k (n+1) (v* 2+u2 t p 1) (p+1))else none
theorem FP {c:SC} {S:SS} {h:H} {ov:AV} (st:St c S h ov) (l:List Int) (v n:Nat) (hs:n=16∨(n≤15∧S.e≠0)):
 ∃e',Lp AP.A [0,1,5,6] AP.f60L0 [(0,.aC c.s 0),(1,vn l),(5,I v),(6,I n)] h=some (.exit 0,e',h)∧look e' 0=.aC c.s 0:=by
 have gs:=st.gs
 refine⟨[(0,.aC c.s 0),(1,vn l),(5,I v),(6,I n),(17,.bool false)],sJ ?_,rfl⟩
 rcases hs with hn|⟨hn,he⟩
 · have c1:¬(n:Int)≤15:=by omega
   simp only[I]at *
   simp only[AP.f60L0,go_sem,QJ c1]
 · have c1:(n:Int)≤15:=by omega
   have c2:(S.e==0)=false:=tH he
   simp only[I]at *
   simp only[AP.f60L0,go_sem,QL c1,gs,c2]
theorem FO {c : SC} (l : List Int) (hl : l.length < 100000) : ∀ (k n v : Nat) (S : SS) (h : H) (ov : AV), n + k = 16 → 1 ≤ n → v < 2 ^ (n - 1) → St c S h ov → S.e = 0 →
 ∃ h' S', St c S' h' ov ∧ Fr c h ov h' ov ∧ match yd c.text l k n v S.at_ with
   |some (y,p)=>S'={S with at_:=p}∧∃e',Lp AP.A [0,1,5,6] AP.f60L0 [(0,.aC c.s 0),(1,vn l),(5,I v),(6,I n)] h=some (.ret,e',h')∧look e' 4=I y
   |none=>(S'.e=0∨S'.e=700)∧∃e',Lp AP.A [0,1,5,6] AP.f60L0 [(0,.aC c.s 0),(1,vn l),(5,I v),(6,I n)] h=some (.exit 0,e',h')∧look e' 0=.aC c.s 0
 | 0, n, v, S, h, ov, hk, hn, hv, st, he => by
   obtain⟨e',q1,q2⟩:=FP st l v n (.inl (by omega))
   exact⟨h,S,st,Fr.refl _ _ _,by simp only[yd];exact⟨.inl he,e',q1,q2⟩⟩
 | k + 1, n, v, S, h, ov, hk, hn, hv, st, he => by
   have gs:=st.gs
   obtain⟨h1,k1,k2,k3⟩:=xW st 1 1 rfl (by omega)
   obtain⟨x,hx⟩:∃x,x=(uY c 1 S).1:=⟨_,rfl⟩
   obtain⟨S1,hS1⟩:∃x,x=(uY c 1 S).2:=⟨_,rfl⟩
   rw[←hx]at k1;rw[←hS1]at k2
   have hp:2^n≤2^15:=QX (by omega) (by omega)
   have h2:2^(n-1+1)=2^(n-1)* 2:=Nat.pow_succ 2 (n-1)
   rw[show n-1+1=n by omega]at h2
   obtain⟨P,hP⟩:∃P:Nat,P=2^(n-1):=⟨_,rfl⟩
   rw[←hP]at h2 hv
   obtain⟨Q,hQ⟩:∃Q:Nat,Q=2^n:=⟨_,rfl⟩
   rw[←hQ]at h2 hp
   simp only[Nat.reducePow]at hp
   have hx1:x<2:=by
    rw[hx];unfold uY;split
    · have:=wx c.text S.at_ 1;simpa using this
    · simp
   have hv':v* 2+x<Q:=by omega
   have w1:IntKind.wrap .i64 ((v:Int)* 2)=((v* 2:Nat):Int):=by
    rw[show(v:Int)* 2=((v* 2:Nat):Int)by omega];exact uX (by omega)
   have w2:IntKind.wrap .i64 (((v* 2:Nat):Int)+(x:Int))=((v* 2+x:Nat):Int):=by
    rw[show((v* 2:Nat):Int)+(x:Int)=((v* 2+x:Nat):Int)by omega];exact uX (by omega)
   have w3:IntKind.wrap .i64 ((n:Int)+1)=((n+1:Nat):Int):=uX (n:=n+1) (by omega)
   have c1:(n:Int)≤15:=by omega
   have fc:=Mc h1 l hl n hn (by omega) ((v* 2+x:Nat):Int) (by omega) (by omega)
   have gs1:=k2.gs
   have step:(wM l n ((v* 2+x:Nat):Int)=none∨S1.e≠0)→aK (aQ AP.A) bo AP.f60L0 (ax [(0,.aC c.s 0),(1,vn l),(5,I v),(6,I n)] [0,1,5,6]) h=some (.normal,[(0,.aC c.s 0),(1,vn l),(5,I (v* 2+x:Nat)),(6,I (n+1:Nat))],h1):=by
    intro hc
    rcases hc with hc|hc
    · rw[hc]at fc
      simp only[I]at *
      simp only[AP.f60L0,go_sem,QL c1,gs,he,k1,w1,w2,fc,w3]
    · have c2:(S1.e==0)=false:=tH hc
      cases hf:wM l n ((v* 2+x:Nat):Int)with
      | none =>
        rw[hf]at fc
        simp only[I]at *
        simp only[AP.f60L0,go_sem,QL c1,gs,he,k1,w1,w2,fc,w3]
      | some y =>
        rw[hf]at fc
        simp only[I]at *
        simp only[AP.f60L0,go_sem,QL c1,gs,he,k1,w1,w2,fc,w3,gs1,c2]
   by_cases hat:S.at_+1≤8* c.text.size
   · have eg:uY c 1 S=(u2 c.text S.at_ 1,{S with at_:=S.at_+1}):=by rw[uY,if_pos hat]
     rw[eg]at hx hS1
     dsimp only at hx hS1
     subst hx hS1
     rw[yd,if_pos hat]
     cases hf:wM l n ((v* 2+u2 c.text S.at_ 1:Nat):Int)with
     | none =>
       obtain⟨h',S',q1,q2,q3⟩:=FO l hl k (n+1) (v* 2+u2 c.text S.at_ 1) _ h1 ov (by omega) (by omega) (by rw[Nat.add_sub_cancel,←hQ];exact hv') k2 he
       refine⟨h',S',q1,k3.trans q2, ?_⟩
       dsimp only at q3 ⊢
       have sp:=step (.inl hf)
       cases hy:yd c.text l k (n+1) (v* 2+u2 c.text S.at_ 1) (S.at_+1)with
       | none =>
         rw[hy]at q3
         obtain⟨q3,e',q4,q5⟩:=q3
         exact⟨q3,e',sK sp q4,q5⟩
       | some y =>
         rw[hy]at q3
         obtain⟨q3,e',q4,q5⟩:=q3
         exact⟨q3,e',sK sp q4,q5⟩
     | some y =>
       refine⟨h1,_,k2,k3,rfl,[(4,I y)],td ?_,rfl⟩
       rw[hf]at fc
       simp only[I]at *
       simp only[AP.f60L0,go_sem,QL c1,gs,he,k1,w1,w2,fc,w3,gs1]
   · have eg:uY c 1 S=(0,{S with e:=700}):=by rw[uY,if_neg hat,vr,if_pos he]
     rw[eg]at hx hS1
     dsimp only at hx hS1
     subst hx hS1
     rw[yd,if_neg hat]
     have hst:n+1=16∨(n+1≤15∧(700:Int)≠0):=by omega
     obtain⟨e',q1,q2⟩:=FP k2 l (v* 2+0) (n+1) hst
     exact⟨h1,_,k2,k3,.inr rfl,e',sK (step (.inr (by simp))) q1,q2⟩
theorem CI {c:SC} {S:SS} {h:H} {ov:AV} (l:List Int) (hl:l.length<100000) (st:St c S h ov) (he:S.e=0):
 ∃ h' S' y, aQ AP.A 60 [.aC c.s 0, vn l] h = some (I y, h') ∧ St c S' h' ov ∧ Fr c h ov h' ov ∧ match yd c.text l 15 1 0 S.at_ with
   |some (z,p)=>S'={S with at_:=p}∧y=z
   |none=>S'.e=700∧y=256:=by
 obtain⟨h1,S1,q1,q2,q3⟩:=FO l hl 15 1 0 S h ov (by omega) (by omega) (by simp) st he
 cases hy:yd c.text l 15 1 0 S.at_ with
 | some yp =>
   rw[hy]at q3
   obtain⟨q3,e',q4,q5⟩:=q3
   refine⟨h1,S1,yp.1, ?_,q1,q2,q3,rfl⟩
   refine sY (fn:=AP.f60) (e:=e') (vs:=[I yp.1]) rfl rfl rfl ?_ (by simp only[AP.f60,cm,mO,q5];rfl)
   have q6:Lp AP.A [0,1,5,6] AP.f60L0 [(0,.aC c.s 0),(1,vn l),(5,I 0),(6,I 1)] h=some (.ret,e',h1):=q4
   clear q4
   simp only[I]at *
   simp only[AP.f60,go_sem,rH,q6]
 | none =>
   rw[hy]at q3
   obtain⟨q3,e',q4,q5⟩:=q3
   obtain⟨h2,r1,r2,r3⟩:=wE q1 700
   refine⟨h2,vr 700 S1,256, ?_,r2,q2.trans r3, ?_,rfl⟩
   · refine sY (fn:=AP.f60) (e:=[(4,I 256)]) rfl rfl rfl ?_ rfl
     have q6:Lp AP.A [0,1,5,6] AP.f60L0 [(0,.aC c.s 0),(1,vn l),(5,I 0),(6,I 1)] h=some (.exit 0,e',h1):=q4
     clear q4
     simp only[I]at *
     simp only[AP.f60,go_sem,rH,q6,q5,r1]
   · rcases q3 with q3|q3<;>simp [vr,q3]
def lenOf (y:Nat):Option (Nat×Nat):=
 if y≤256∨285<y then none else if y=285 then some (258,0)else if y<265 then some (y-254,0)else some (3+(4+(y-257)%4)* 2^((y-257)/4-1),(y-257)/4-1)
def vq (y:Nat):Option (Nat×Nat):=
 if 30≤y then none else if y<4 then some (1+y,0)else some (1+(2+y%2)* 2^(y/2-1),y/2-1)
theorem Ci {y a b:Nat} (h:lenOf y=some (a,b)):a≤258∧b≤5∧0<a:=by
 have key:∀y<286,∀a b,lenOf y=some (a,b)→a≤258∧b≤5∧0<a:=by
  intro y hy a b h
  have:((lenOf y).map fun p=>decide (p.1≤258∧p.2≤5∧0<p.1))=(lenOf y).map fun _=>true:=by
   clear h
   revert y
   decide+kernel
  rw[h]at this
  simpa using this
 by_cases hy:y<286
 · exact key y hy a b h
 · rw[lenOf,if_pos (by omega)]at h;cases h
theorem AB {y a b:Nat} (h:vq y=some (a,b)):a≤24577∧b≤13∧0<a:=by
 have key:∀y<30,∀a b,vq y=some (a,b)→a≤24577∧b≤13∧0<a:=by
  intro y hy a b h
  have:((vq y).map fun p=>decide (p.1≤24577∧p.2≤13∧0<p.1))=(vq y).map fun _=>true:=by
   clear h
   revert y
   decide+kernel
  rw[h]at this
  simpa using this
 by_cases hy:y<30
 · exact key y hy a b h
 · rw[vq,if_pos (by omega)]at h;cases h
def CP (o:Option (Nat×Nat)):AV:=match o with
 |some p=>.bJ [I p.1,I p.2,I 0]
 |none=>.bJ [I 0,I 0,I 600]
theorem G3 (h:H) (y:Nat) (hy:y<1000000):aQ AP.A 74 [I y] h=some (CP (lenOf y),h):=by
 have d1:decide ((y:Int)≤256)=decide (y≤256):=by by_cases q:y≤256<;>simp [q]<;>omega
 have w1:IntKind.wrap .i64 ((y:Int)-256)=(y:Int)-256:=s8 (by omega) (by omega)
 have w2:IntKind.wrap .i64 ((y:Int)-256-1)=(y:Int)-257:=by rw[show(y:Int)-256-1=(y:Int)-257 by omega];exact s8 (by omega) (by omega)
 by_cases c1:y≤256
 · rw[lenOf,if_pos (.inl c1)]
   refine tB (fn:=AP.f74) (h2:=h.dG) (e:=[(2,I 0),(3,I 0),(4,I 600)]) rfl rfl rfl ?_ rfl rfl
   have c1':(y:Int)≤256:=by omega
   simp only[I]at *
   simp only[AP.f74,go_sem,w1,w2,QL c1']
 have c1':¬(y:Int)≤256:=by omega
 by_cases c2:285<y
 · rw[lenOf,if_pos (.inr c2)]
   refine tB (fn:=AP.f74) (h2:=h.dG) (e:=[(2,I 0),(3,I 0),(4,I 600)]) rfl rfl rfl ?_ rfl rfl
   have c2':(285:Int)<y:=by omega
   simp only[I]at *
   simp only[AP.f74,go_sem,w1,w2,QJ c1',QL c2']
 have c2':¬(285:Int)<y:=by omega
 rw[lenOf,if_neg (by omega)]
 by_cases c3:y=285
 · rw[if_pos c3]
   refine tB (fn:=AP.f74) (h2:=h.dG) (e:=[(2,I 258),(3,I 0),(4,I 0)]) rfl rfl rfl ?_ rfl rfl
   have c3':((y:Int)==285)=true:=tI (by omega)
   simp only[I]at *
   simp only[AP.f74,go_sem,w1,w2,QJ c1',QJ c2',c3']
 rw[if_neg c3]
 have c3':((y:Int)==285)=false:=tH (by omega)
 by_cases c4:y<265
 · rw[if_pos c4]
   refine tB (fn:=AP.f74) (h2:=h.dG) (e:=[(2,I (y-254:Nat)),(3,I 0),(4,I 0)]) rfl rfl rfl ?_ rfl rfl
   have c4':(y:Int)-257<8:=by omega
   have w3:IntKind.wrap .i64 (3+((y:Int)-257))=((y-254:Nat):Int):=by rw[show 3+((y:Int)-257)=((y-254:Nat):Int)by omega];exact uX (by omega)
   simp only[I]at *
   simp only[AP.f74,go_sem,w1,w2,QJ c1',QJ c2',c3',QL c4',w3]
 rw[if_neg c4]
 have c4':¬(y:Int)-257<8:=by omega
 obtain⟨k,hk⟩:∃k:Nat,(y:Int)-257=k:=QN (by omega)
 have hk':y-257=k:=by omega
 rw[hk]at w2 c4'
 rw[hk']
 have q1:bh .quo (.int .i64 (k:Int)) (.int .i64 4)=some (.int .i64 ((k/4:Nat):Int)):=by
  rw[rk _ _ _ (by omega),show(4:Int)=((4:Nat):Int)from rfl,ye,uX (by omega)]
 have q2:bh .rem (.int .i64 (k:Int)) (.int .i64 4)=some (.int .i64 ((k%4:Nat):Int)):=by
  rw[rq _ _ _ (by omega),show(4:Int)=((4:Nat):Int)from rfl,CK]
 have w3:IntKind.wrap .i64 (((k/4:Nat):Int)-1)=((k/4-1:Nat):Int):=by rw[show((k/4:Nat):Int)-1=((k/4-1:Nat):Int)by omega];exact uX (by omega)
 have w4:IntKind.wrap .i64 (4+((k%4:Nat):Int))=((4+k%4:Nat):Int):=by rw[show 4+((k%4:Nat):Int)=((4+k%4:Nat):Int)by omega];exact uX (by omega)
 have hp:2^(k/4-1)≤2^5:=QX (by omega) (by omega)
 have hm:(4+k%4)* 2^(k/4-1)≤7* 2^5:=Nat.mul_le_mul (by omega) hp
 have q3:oM .shl .i64 ((4+k%4:Nat):Int) ((k/4-1:Nat):Int)=some (.int .i64 (((4+k%4)* 2^(k/4-1):Nat):Int)):=Av (by omega) (by omega)
 generalize (4+k%4)* 2^(k/4-1)=P at *
 have w5:IntKind.wrap .i64 (3+(P:Int))=((3+P:Nat):Int):=by rw[show 3+(P:Int)=((3+P:Nat):Int)by omega];exact uX (by omega)
 refine tB (fn:=AP.f74) (h2:=h.dG) (e:=[(2,I (3+P:Nat)),(3,I (k/4-1:Nat)),(4,I 0)]) rfl rfl rfl ?_ rfl rfl
 simp only[I]at *
 simp only[AP.f74,go_sem,w1,w2,QJ c1',QJ c2',c3',QJ c4',q1,q2,w3,w4,q3,w5]
theorem ES (h:H) (y:Nat) (hy:y<1000000):aQ AP.A 75 [I y] h=some (CP (vq y),h):=by
 have c0:¬(y:Int)<0:=by omega
 by_cases c1:30≤y
 · rw[vq,if_pos c1]
   refine tB (fn:=AP.f75) (h2:=h.dG) (e:=[(2,I 0),(3,I 0),(4,I 600)]) rfl rfl rfl ?_ rfl rfl
   have c1':(30:Int)≤y:=by omega
   simp only[I]at *
   simp only[AP.f75,go_sem,QJ c0,QL c1']
 have c1':¬(30:Int)≤y:=by omega
 rw[vq,if_neg c1]
 by_cases c2:y<4
 · rw[if_pos c2]
   refine tB (fn:=AP.f75) (h2:=h.dG) (e:=[(2,I (1+y:Nat)),(3,I 0),(4,I 0)]) rfl rfl rfl ?_ rfl rfl
   have c2':(y:Int)<4:=by omega
   have w3:IntKind.wrap .i64 (1+(y:Int))=((1+y:Nat):Int):=by rw[show 1+(y:Int)=((1+y:Nat):Int)by omega];exact uX (by omega)
   simp only[I]at *
   simp only[AP.f75,go_sem,QJ c0,QJ c1',QL c2',w3]
 rw[if_neg c2]
 have c2':¬(y:Int)<4:=by omega
 have q1:bh .quo (.int .i64 (y:Int)) (.int .i64 2)=some (.int .i64 ((y/2:Nat):Int)):=by
  rw[rk _ _ _ (by omega),show(2:Int)=((2:Nat):Int)from rfl,ye,uX (by omega)]
 have q2:bh .rem (.int .i64 (y:Int)) (.int .i64 2)=some (.int .i64 ((y%2:Nat):Int)):=by
  rw[rq _ _ _ (by omega),show(2:Int)=((2:Nat):Int)from rfl,CK]
 have w3:IntKind.wrap .i64 (((y/2:Nat):Int)-1)=((y/2-1:Nat):Int):=by rw[show((y/2:Nat):Int)-1=((y/2-1:Nat):Int)by omega];exact uX (by omega)
 have w4:IntKind.wrap .i64 (2+((y%2:Nat):Int))=((2+y%2:Nat):Int):=by rw[show 2+((y%2:Nat):Int)=((2+y%2:Nat):Int)by omega];exact uX (by omega)
 have hp:2^(y/2-1)≤2^13:=QX (by omega) (by omega)
 have hm:(2+y%2)* 2^(y/2-1)≤3* 2^13:=Nat.mul_le_mul (by omega) hp
 have q3:oM .shl .i64 ((2+y%2:Nat):Int) ((y/2-1:Nat):Int)=some (.int .i64 (((2+y%2)* 2^(y/2-1):Nat):Int)):=Av (by omega) (by omega)
 generalize (2+y%2)* 2^(y/2-1)=P at *
 have w5:IntKind.wrap .i64 (1+(P:Int))=((1+P:Nat):Int):=by rw[show 1+(P:Int)=((1+P:Nat):Int)by omega];exact uX (by omega)
 refine tB (fn:=AP.f75) (h2:=h.dG) (e:=[(2,I (1+P:Nat)),(3,I (y/2-1:Nat)),(4,I 0)]) rfl rfl rfl ?_ rfl rfl
 simp only[I]at *
 simp only[AP.f75,go_sem,QJ c0,QJ c1',QJ c2',q1,q2,w3,w4,q3,w5]
abbrev Rs:=Except Int (Nat×List Nat)
def Fin (r:Rs) (S:SS):Prop:=match r with
 | .ok q=>S=⟨q.1,q.2,0⟩
 | .error k=>S.e=k∧k≠0
theorem El {c:SC} {S:SS} (b:Nat) (he:S.e=0) (hm:¬c.most≤S.out.length):Cw c b S=⟨S.at_,S.out++[b],0⟩:=by
 simp only[Cw,if_neg hm,he,if_true]
theorem AS {c:SC} {S:SS} (b:Nat) (he:S.e=0) (hm:c.most≤S.out.length):(Cw c b S).e=701:=by
 simp [Cw,hm,vr,he]
def xR (t:ByteArray) (most:Int):Nat→Nat→List Nat→Rs
 |0,p,out=>.ok (p,out)
 |n+1,p,out=>if p+8≤8* t.size then(if most≤out.length then .error 701 else xR t most n (p+8) (out++[u2 t p 8]))else .error 700
theorem xE {c:SC} {S:SS} {h:H} {ov:AV} (st:St c S h ov) (n:Nat) (hs:n=0∨S.e≠0):
 ∃e',Lp AP.A [0,2] AP.f39L0 [(0,.aC c.s 0),(2,I n)] h=some (.exit 0,e',h):=by
 have gs:=st.gs
 refine⟨[(0,.aC c.s 0),(2,I n),(26,.bool false)],sJ ?_⟩
 by_cases hn:n=0
 · have c1:¬(0:Int)<n:=by omega
   simp only[I]at *
   simp only[AP.f39L0,go_sem,QJ c1]
 · have c1:(0:Int)<n:=by omega
   have c2:(S.e==0)=false:=tH (by omega)
   simp only[I]at *
   simp only[AP.f39L0,go_sem,QL c1,gs,c2]
theorem CG {c : SC} : ∀ (n : Nat) (S : SS) (h : H) (ov : AV), St c S h ov → S.e = 0 → n ≤ 65535 →
 ∃e' h' ov' S',Lp AP.A [0,2] AP.f39L0 [(0,.aC c.s 0),(2,I n)] h=some (.exit 0,e',h')∧St c S' h' ov'∧Fr c h ov h' ov'∧Fin (xR c.text c.most n S.at_ S.out) S'
 | 0, S, h, ov, st, he, hn => by
   obtain⟨e',q⟩:=xE st 0 (.inl rfl)
   exact⟨e',h,ov,S,q,st,Fr.refl _ _ _,by simp only[xR,Fin];cases S;simp_all⟩
 | n + 1, S, h, ov, st, he, hn => by
   have gs:=st.gs
   obtain⟨h1,k1,k2,k3⟩:=xW st 8 8 rfl (by omega)
   have gs1:=k2.gs
   have c1:(0:Int)<((n+1:Nat):Int):=by omega
   have w1:IntKind.wrap .i64 (((n+1:Nat):Int)-1)=(n:Int):=by rw[show((n+1:Nat):Int)-1=(n:Int)by omega];exact uX (by omega)
   by_cases hp:S.at_+8≤8* c.text.size
   · have eg:uY c 8 S=(u2 c.text S.at_ 8,{S with at_:=S.at_+8}):=by rw[uY,if_pos hp]
     rw[eg]at k1 k2 gs1
     dsimp only at k1 k2 gs1
     obtain⟨h2,ov2,p1,p2,p3⟩:=Jk k2 (b:=u2 c.text S.at_ 8)
     have hb:=wx c.text S.at_ 8
     have w2:IntKind.wrap .u8 ((u2 c.text S.at_ 8:Nat):Int)=((u2 c.text S.at_ 8:Nat):Int):=wrap_u8 (by simpa using hb)
     have step:aK (aQ AP.A) bo AP.f39L0 (ax [(0,.aC c.s 0),(2,I (n+1:Nat))] [0,2]) h=some (.normal,[(0,.aC c.s 0),(2,I n)],h2):=by
      simp only[I]at *
      simp only[AP.f39L0,go_sem,QL c1,gs,he,k1,gs1,w2,p1,w1]
     rw[xR,if_pos hp]
     by_cases hm:c.most≤S.out.length
     · rw[if_pos hm]
       have hl:=AS (c:=c) (S:={S with at_:=S.at_+8}) (u2 c.text S.at_ 8) he hm
       obtain⟨e',q⟩:=xE p2 n (.inr (by rw[hl];decide))
       exact⟨e',h2,ov2,_,sK step q,p2,k3.trans p3,hl,by decide⟩
     · rw[if_neg hm]
       rw[El (S:={S with at_:=S.at_+8}) _ he hm]at p2
       obtain⟨e',h',ov',S',q1,q2,q3,q4⟩:=CG n _ h2 ov2 p2 rfl (by omega)
       exact⟨e',h',ov',S',sK step q1,q2,(k3.trans p3).trans q3,q4⟩
   · have eg:uY c 8 S=(0,{S with e:=700}):=by rw[uY,if_neg hp,vr,if_pos he]
     rw[eg]at k1 k2 gs1
     dsimp only at k1 k2 gs1
     have step:aK (aQ AP.A) bo AP.f39L0 (ax [(0,.aC c.s 0),(2,I (n+1:Nat))] [0,2]) h=some (.normal,[(0,.aC c.s 0),(2,I n)],h1):=by
      simp only[I]at *
      simp only[AP.f39L0,go_sem,QL c1,gs,he,k1,gs1,w1]
     rw[xR,if_neg hp]
     obtain⟨e',q⟩:=xE k2 n (.inr (by simp))
     exact⟨e',h1,ov,_,sK step q,k2,k3,rfl,by decide⟩
def BD (t:ByteArray) (most:Int) (p0:Nat) (out:List Nat):Rs:=
 let p:=(p0+7)/8* 8
 if p+32≤8* t.size then(if u2 t p 16+u2 t (p+16) 16=65535 then xR t most (u2 t p 16) (p+32) out else .error 700)else .error 700
theorem JL {n:Nat} (hn:n<65536):bits .xor .i64 (n:Int) 65535=((65535-n:Nat):Int):=by
 have h1:n<2^16:=by simpa using hn
 show IntKind.wrap .i64 (((BitVec.ofInt 64 (n:Int)^^^BitVec.ofInt 64 ((65535:Nat):Int)).toNat:Nat):Int)=_
 rw[BitVec.toNat_xor,xu 64 n (by omega),xu 64 65535 (by omega)]
 have h2:n^^^65535=65535-n:=by
  have:65535-n=2^16-(n+1):=by omega
  rw[this]
  apply Nat.eq_of_testBit_eq
  intro i
  rw[Nat.testBit_two_pow_sub_succ h1,Nat.testBit_xor,show 65535=2^16-1 from rfl,Nat.testBit_two_pow_sub_one]
  by_cases hi:i<16
  · simp [hi]
  · have:n.testBit i=false:=Nat.testBit_lt_two_pow (Nat.lt_of_lt_of_le h1 (QX (by omega) (by omega)))
    simp [hi,this]
 rw[h2];exact uX (by omega)
theorem St.align {c:SC} {S:SS} {h:H} {ov:AV} (st:St c S h ov):∃h',aQ AP.A 16 [.aC c.r 0] h=some (I 0,h')∧St c {S with at_:=(S.at_+7)/8* 8} h' ov∧Fr c h ov h' ov:=by
 have hle:=st.xS
 have:=st.Nn (p:=(S.at_+7)/8* 8) (by omega)
 exact⟨_,JS h c.r c.text S.at_ st.gr st.fr st.sz st.xS,this.1,this.2⟩
theorem JC {c : SC} {S : SS} {h : H} {ov : AV} (st : St c S h ov) (he : S.e = 0) :
 ∃h' ov' S',aQ AP.A 39 [.aC c.s 0] h=some (.bJ [],h')∧St c S' h' ov'∧Fr c h ov h' ov'∧Fin (BD c.text c.most S.at_ S.out) S':=by
 have gs:=st.gs
 obtain⟨h1,a1,a2,a3⟩:=st.align
 obtain⟨p,hp⟩:∃p,p=(S.at_+7)/8* 8:=⟨_,rfl⟩
 rw[←hp]at a2
 have hS:BD c.text c.most S.at_ S.out=if p+32≤8* c.text.size then(if u2 c.text p 16+u2 c.text (p+16) 16=65535 then xR c.text c.most (u2 c.text p 16) (p+32) S.out else .error 700)else .error 700:=by
  rw[hp];rfl
 rw[hS];clear hS
 obtain⟨h2,b1,b2,b3⟩:=xW a2 16 16 rfl (by omega)
 obtain⟨h3,d1,d2,d3⟩:=xW b2 16 16 rfl (by omega)
 obtain⟨n,hn⟩:∃n,n=(uY c 16 {S with at_:=p}).1:=⟨_,rfl⟩
 obtain⟨S2,hS2⟩:∃n,n=(uY c 16 {S with at_:=p}).2:=⟨_,rfl⟩
 obtain⟨m,hm⟩:∃n,n=(uY c 16 S2).1:=⟨_,rfl⟩
 obtain⟨S3,hS3⟩:∃n,n=(uY c 16 S2).2:=⟨_,rfl⟩
 rw[←hn]at b1;rw[←hS2]at b2 d1 d2;rw[←hm]at d1;rw[←hS3]at d2
 have hn16:n<65536:=by
  rw[hn];unfold uY;split
  · simpa using wx c.text p 16
  · simp
 have x1:=JL hn16
 by_cases hx:m=65535-n
 · have c1:((m:Int) !=((65535-n:Nat):Int))=false:=tJ (by omega)
   have fin:∀e' h',Lp AP.A [0,2] AP.f39L0 [(0,.aC c.s 0),(2,I n)] h3=some (.exit 0,e',h')→aQ AP.A 39 [.aC c.s 0] h=some (.bJ [],h'):=by
    intro e' h' q
    refine vJ (fn:=AP.f39) (e:=[]) rfl rfl rfl ?_ rfl
    simp only[I]at *
    simp only[AP.f39,go_sem,rH,gs,a1,b1,d1,x1,c1,q]
   by_cases h32:p+32≤8* c.text.size
   · have e2:uY c 16 {S with at_:=p}=(u2 c.text p 16,{S with at_:=p+16}):=by rw[uY,if_pos (by show p+16≤_;omega)]
     rw[e2]at hn hS2;dsimp only at hn hS2;subst hS2
     have e3:uY c 16 {S with at_:=p+16}=(u2 c.text (p+16) 16,{S with at_:=p+16+16}):=by rw[uY,if_pos (by show p+16+16≤_;omega)]
     rw[e3]at hm hS3;dsimp only at hm hS3;subst hS3
     rw[if_pos h32,←hn,←hm,if_pos (by omega)]
     obtain⟨e',h',ov',S',q1,q2,q3,q4⟩:=CG n _ h3 ov d2 he (by omega)
     exact⟨h',ov',S',fin e' h' q1,q2,((a3.trans b3).trans d3).trans q3,q4⟩
   · rw [if_neg h32]
     have he3:S3.e=700:=by
      rw[hS3,hS2]
      unfold uY
      by_cases q1:p+16≤8* c.text.size
      · simp only[if_pos q1]
        rw[if_neg (by omega)];simp [vr,he]
      · simp only[if_neg q1,vr,he,if_true]
        split<;>simp
     obtain⟨e',q⟩:=xE d2 n (.inr (by rw[he3];decide))
     exact⟨h3,ov,S3,fin e' h3 q,d2,(a3.trans b3).trans d3,he3,by decide⟩
 · have c1:((m:Int) !=((65535-n:Nat):Int))=true:=tK (by omega)
   obtain⟨h4,f1,f2,f3⟩:=wE d2 700
   have he4:(vr 700 S3).e=700:=by
    have:S3.e=0∨S3.e=700:=by
     rw[hS3,hS2]
     unfold uY
     by_cases q1:p+16≤8* c.text.size
     · simp only[if_pos q1]
       split<;>simp [vr,he]
     · simp only[if_neg q1,vr,he,if_true]
       split<;>simp
    rcases this with q|q<;>simp [vr,q]
   obtain⟨e',q⟩:=xE f2 n (.inr (by rw[he4];decide))
   refine⟨h4,ov,vr 700 S3, ?_,f2,((a3.trans b3).trans d3).trans f3, ?_⟩
   · refine vJ (fn:=AP.f39) (e:=[]) rfl rfl rfl ?_ rfl
     simp only[I]at *
     simp only[AP.f39,go_sem,rH,gs,a1,b1,d1,x1,c1,f1,q]
   · by_cases h32:p+32≤8* c.text.size
     · have e2:uY c 16 {S with at_:=p}=(u2 c.text p 16,{S with at_:=p+16}):=by rw[uY,if_pos (by show p+16≤_;omega)]
       rw[e2]at hn hS2;dsimp only at hn hS2;subst hS2
       have e3:uY c 16 {S with at_:=p+16}=(u2 c.text (p+16) 16,{S with at_:=p+16+16}):=by rw[uY,if_pos (by show p+16+16≤_;omega)]
       rw[e3]at hm hS3;dsimp only at hm hS3
       rw[if_pos h32,←hn,←hm,if_neg (by omega)]
       exact⟨he4,by decide⟩
     · rw[if_neg h32];exact⟨he4,by decide⟩
def Ba (most:Int) (d:Nat):Nat→List Nat→Except Int (List Nat)
 |0,out=>.ok out
 |n+1,out=>if most≤out.length then .error 701 else Ba most d n (out++[out.getD (out.length-d) 0])
def JM (l:List Nat):Prop:=∀b∈l,b<256
theorem xV {c:SC} {S:SS} {h:H} {ov:AV} (st:St c S h ov) (n d:Nat) (hs:n=0∨S.e≠0):
 ∃e',Lp AP.A [0,6,8] AP.f61L0 [(0,.aC c.s 0),(6,I n),(8,I d)] h=some (.exit 0,e',h):=by
 have gs:=st.gs
 refine⟨[(0,.aC c.s 0),(6,I n),(8,I d),(53,.bool false)],sJ ?_⟩
 by_cases hn:n=0
 · have c1:¬(0:Int)<n:=by omega
   simp only[I]at *
   simp only[AP.f61L0,go_sem,QJ c1]
 · have c1:(0:Int)<n:=by omega
   have c2:(S.e==0)=false:=tH (by omega)
   simp only[I]at *
   simp only[AP.f61L0,go_sem,QL c1,gs,c2]
theorem mV.elem {h:H} {v:AV} {cs:List AV} (o:mV h v cs) {i:Nat} {x:AV} (hx:cs[i]?=some x):∃id,v=.aD id 0 cs.length 1∧fB 1 v (I i)=some (.aC id i)∧h.get id=some cs:=by
 have hi:i<cs.length:=(um.1 hx).1
 rcases o with ⟨rfl,rfl⟩|⟨id,rfl,h1,_⟩
 · simp at hi
 · exact⟨id,rfl,by simp [fB,jV hi],h1⟩
theorem JY {l:List Nat} {i:Nat} (h:i<l.length):(xI l)[i]?=some (.int .u8 (l.getD i 0:Nat)):=by
 simp [xI,uG,h,List.getD]
theorem C9 {c:SC} (d:Nat) (hd:0<d):∀(n:Nat) (S:SS) (h:H) (ov:AV),St c S h ov→S.e=0→d≤S.out.length→n≤65535→
 ∃ e' h' ov' S', Lp AP.A [0, 6, 8] AP.f61L0 [(0, .aC c.s 0), (6, I n), (8, I d)] h = some (.exit 0, e', h') ∧ St c S' h' ov' ∧ Fr c h ov h' ov' ∧ match Ba c.most d n S.out with
   | .ok o=>S'={S with out:=o}
   | .error k=>S'.e=k∧k≠0
 | 0, S, h, ov, st, he, hl, hn => by
   obtain⟨e',q⟩:=xV st 0 d (.inl rfl)
   exact⟨e',h,ov,S,q,st,Fr.refl _ _ _,by simp only[Ba]⟩
 | n + 1, S, h, ov, st, he, hl, hn => by
   have gs:=st.gs
   have hol:=st.ol
   have hml:=st.ml
   have ln:=st.own.len
   rw[yk]at ln
   have c1:(0:Int)<((n+1:Nat):Int):=by omega
   have w1:IntKind.wrap .i64 (((n+1:Nat):Int)-1)=(n:Int):=by rw[show((n+1:Nat):Int)-1=(n:Int)by omega];exact uX (by omega)
   have w2:IntKind.wrap .i64 ((S.out.length:Int)-d)=((S.out.length-d:Nat):Int):=by rw[show(S.out.length:Int)-d=((S.out.length-d:Nat):Int)by omega];exact uX (by omega)
   have hb:=JY (l:=S.out) (i:=S.out.length-d) (by omega)
   obtain⟨id,i1,i2,i3⟩:=st.own.elem hb
   obtain⟨h2,ov2,p1,p2,p3⟩:=Jk st (b:=S.out.getD (S.out.length-d) 0)
   have step:aK (aQ AP.A) bo AP.f61L0 (ax [(0,.aC c.s 0),(6,I (n+1:Nat)),(8,I d)] [0,6,8]) h=some (.normal,[(0,.aC c.s 0),(6,I n),(8,I d)],h2):=by
    clear i1
    simp only[I]at *
    simp only[AP.f61L0,go_sem,QL c1,gs,he,ln,w2,i2,i3,hb,p1,w1]
   rw[Ba]
   by_cases hm:c.most≤S.out.length
   · rw[if_pos hm]
     have hl:=AS (c:=c) (S:=S) (S.out.getD (S.out.length-d) 0) he hm
     obtain⟨e',q⟩:=xV p2 n d (.inr (by rw[hl];decide))
     exact⟨e',h2,ov2,_,sK step q,p2,p3,hl,by decide⟩
   · rw[if_neg hm]
     rw[El _ he hm]at p2
     obtain⟨e',h',ov',S',q1,q2,q3,q4⟩:=C9 d hd n _ h2 ov2 p2 rfl (by simp;omega) (by omega)
     refine⟨e',h',ov',S',sK step q1,q2,p3.trans q3, ?_⟩
     dsimp only at q4 ⊢
     rw[he]
     exact q4
def A9 (t : ByteArray) (most : Int) (dl : List Int) (y : Nat) (p : Nat) (out : List Nat) : Rs :=
 match lenOf y with
 |none=>.error 700
 | some (least, extra) =>
   if p+extra≤8* t.size then
    match yd t dl 15 1 0 (p+extra)with
    |none=>.error 700
    | some (z, p2) => match vq z.toNat with
      |none=>.error 700
      | some (ld, xd) =>
        if p2+xd≤8* t.size∧ld+u2 t p2 xd≤out.length then
         (match Ba most (ld+u2 t p2 xd) (least+u2 t p extra) out with
         | .ok o=>.ok (p2+xd,o)
         | .error k=>.error k)
        else .error 700
   else .error 700
theorem JF {l:List Int} {n:Nat} {y:Int} (h:y∈syms l n):0≤y∧y<l.length:=by
 unfold syms at h
 split at h
 · cases h
 · rw[List.mem_filterMap]at h
   obtain⟨q,hq,h⟩:=h
   split at h
   · obtain rfl:=ud h
     have:=List.mem_zipIdx hq
     omega
   · cases h
theorem II {l:List Int} {n:Nat} {v y:Int} (h:wM l n v=some y):0≤y∧y<l.length:=by
 unfold wM at h
 split at h
 · exact JF (uz h)
 · cases h
theorem xN {t : ByteArray} {l : List Int} : ∀ {k n v p : Nat} {y : Int} {p2 : Nat}, yd t l k n v p = some (y, p2) → 0 ≤ y ∧ y < l.length ∧ p < p2 ∧ p2 ≤ 8 * t.size
 |0,_,_,_,_,_,h=>by cases h
 | k + 1, n, v, p, y, p2, h => by
   rw[yd]at h
   split at h
   · split at h
     · rename_i hf
       obtain⟨rfl,rfl⟩:=uf (ud h)
       have:=II hf
       omega
     · have:=xN h
       omega
   · cases h
theorem Iy {c : SC} {S : SS} {h : H} {ov : AV} (dl : List Int) (hdl : dl.length < 100000) (st : St c S h ov) (he : S.e = 0) (y : Nat) (hy : y < 100000) :
 ∃h' ov' S',aQ AP.A 61 [.aC c.s 0,I y,vn dl] h=some (.bJ [],h')∧St c S' h' ov'∧Fr c h ov h' ov'∧Fin (A9 c.text c.most dl y S.at_ S.out) S':=by
 have lo:=G3 h y (by omega)
 unfold A9
 cases hlo:lenOf y with
 | none =>
   rw[hlo]at lo
   obtain⟨h1,S1,k1,k2,k3,k4⟩:=DM st he
   have gs1:=k2.gs
   have c1:(S1.e !=0)=true:=tK (by omega)
   refine⟨h1,ov,S1, ?_,k2,k3,k4,by decide⟩
   refine sY (fn:=AP.f61) (e:=[(0,.aC c.s 0),(2,vn dl),(6,I 0),(20,.bool true)]) (vs:=[]) rfl rfl rfl ?_ rfl
   simp only[I,CP]at *
   simp only[AP.f61,go_sem,lo,k1,gs1,c1]
 | some le =>
   obtain⟨least,extra⟩:=le
   rw[hlo]at lo
   obtain⟨b1,b2,b3⟩:=Ci hlo
   obtain⟨h1,k1,k2,k3⟩:=Ht st (n:=extra) (least:=least) (by omega) (by omega)
   dsimp only
   by_cases hp:S.at_+extra≤8* c.text.size
   · have eg : uY c extra S = (u2 c.text S.at_ extra, { S with at_ := S.at_ + extra }) := by rw [uY, if_pos hp]
     rw[eg]at k1 k2
     dsimp only at k1 k2
     rw[if_pos hp]
     have gs1:=k2.gs
     have hve:=wx c.text S.at_ extra
     have hve2:2^extra≤2^5:=QX (by omega) b2
     obtain⟨h2,S2,z,s1,s2,s3,s4⟩:=CI dl hdl k2 he
     have gs2:=s2.gs
     have c1:(S.e !=0)=false:=tJ he
     dsimp only at s4 gs1
     cases hz:yd c.text dl 15 1 0 (S.at_+extra)with
     | none =>
       rw[hz]at s4
       obtain⟨s4,s5⟩:=s4
       have c2:(S2.e !=0)=true:=tK (by omega)
       refine⟨h2,ov,S2, ?_,s2,k3.trans s3,s4,by decide⟩
       refine sY (fn:=AP.f61) (e:=[(0,.aC c.s 0),(6,I (least+u2 c.text S.at_ extra:Nat)),(7,I z),(28,.bool true)]) (vs:=[]) rfl rfl rfl ?_ rfl
       simp only[I,CP]at *
       simp only[AP.f61,go_sem,lo,k1,gs1,c1,s1,gs2,c2]
     | some zp =>
       obtain⟨z2,p2⟩:=zp
       rw[hz]at s4
       obtain⟨s4,s5⟩:=s4
       subst s5 s4
       have zb:=xN hz
       obtain⟨zn,hzn⟩:∃n:Nat,z=n:=QN zb.1
       subst hzn
       have dob:=ES h2 zn (by omega)
       have c2:(S.e !=0)=false:=tJ he
       dsimp only at gs2 ⊢
       rw[Int.toNat_natCast]
       cases hdo:vq zn with
       | none =>
         rw[hdo]at dob
         obtain⟨h3,S3,v1,v2,v3,v4⟩:=DM s2 he
         have gs3:=v2.gs
         have ln:=v2.own.len
         rw[yk]at ln
         have hn0:¬((S3.out.length:Int)<0):=by omega
         obtain⟨e',q⟩:=xV v2 (least+u2 c.text S.at_ extra) 0 (.inr (by rw[v4];decide))
         refine⟨h3,ov,S3, ?_,v2,(k3.trans s3).trans v3,v4,by decide⟩
         refine vJ (fn:=AP.f61) (e:=[]) (vs:=[]) rfl rfl rfl ?_ rfl
         have q':Lp AP.A [0,6,8] AP.f61L0 [(0,.aC c.s 0),(6,I (least+u2 c.text S.at_ extra:Nat)),(8,I 0)] h3=some (.exit 0,e',h3):=q
         clear q
         simp only[I,CP]at *
         simp only[AP.f61,go_sem,rH,lo,k1,gs1,c1,s1,gs2,c2,dob,v1,gs3,ln,QJ hn0,q']
       | some lx =>
         obtain⟨ld,xd⟩:=lx
         rw[hdo]at dob
         obtain⟨d1,d2,d3⟩:=AB hdo
         obtain⟨h3,v1,v2,v3⟩:=Ht s2 (n:=xd) (least:=ld) (by omega) (by omega)
         obtain⟨x,hx⟩:∃x,x=(uY c xd {S with at_:=p2}).1:=⟨_,rfl⟩
         obtain⟨S3,hS3⟩:∃x,x=(uY c xd {S with at_:=p2}).2:=⟨_,rfl⟩
         rw[←hx]at v1;rw[←hS3]at v2
         have ho3:S3.out=S.out:=by rw[hS3];unfold uY;split<;>simp [vr];split<;>rfl
         have gs3:=v2.gs
         have ln:=v2.own.len
         rw[yk]at ln
         dsimp only
         by_cases hbk:S3.out.length<ld+x
         · have hbk':(S3.out.length:Int)<((ld+x:Nat):Int):=by omega
           obtain⟨h4,f1,f2,f3⟩:=wE v2 700
           have he4:(vr 700 S3).e=700:=by
            have:S3.e=0∨S3.e=700:=by
             rw[hS3];unfold uY;split
             · exact .inl he
             · right;simp [vr,he]
            rcases this with q|q<;>simp [vr,q]
           have hneg:¬(p2+xd≤8* c.text.size∧ld+u2 c.text p2 xd≤S.out.length):=by
            intro ⟨q1,q2⟩
            have:uY c xd {S with at_:=p2}=(u2 c.text p2 xd,{S with at_:=p2+xd}):=by rw[uY,if_pos q1]
            rw[this]at hx;dsimp only at hx;rw[ho3]at hbk;omega
           rw[if_neg hneg]
           obtain⟨e',q⟩:=xV f2 (least+u2 c.text S.at_ extra) (ld+x) (.inr (by rw[he4];decide))
           refine⟨h4,ov,vr 700 S3, ?_,f2,((k3.trans s3).trans v3).trans f3,he4,by decide⟩
           refine vJ (fn:=AP.f61) (e:=[]) (vs:=[]) rfl rfl rfl ?_ rfl
           simp only[I,CP]at *
           simp only[AP.f61,go_sem,rH,lo,k1,gs1,c1,s1,gs2,c2,dob,v1,gs3,ln,QL hbk',f1,q]
         · have hbk':¬(S3.out.length:Int)<((ld+x:Nat):Int):=by omega
           have fin:∀e' h',Lp AP.A [0,6,8] AP.f61L0 [(0,.aC c.s 0),(6,I (least+u2 c.text S.at_ extra:Nat)),(8,I (ld+x:Nat))] h3=some (.exit 0,e',h')→aQ AP.A 61 [.aC c.s 0,I y,vn dl] h=some (.bJ [],h'):=by
            intro e' h' q
            refine vJ (fn:=AP.f61) (e:=[]) (vs:=[]) rfl rfl rfl ?_ rfl
            simp only[I,CP]at *
            simp only[AP.f61,go_sem,rH,lo,k1,gs1,c1,s1,gs2,c2,dob,v1,gs3,ln,QJ hbk',q]
           by_cases hp2:p2+xd≤8* c.text.size
           · have:uY c xd {S with at_:=p2}=(u2 c.text p2 xd,{S with at_:=p2+xd}):=by rw[uY,if_pos hp2]
             rw[this]at hx hS3;dsimp only at hx hS3
             subst hx hS3
             dsimp only at hbk
             rw[if_pos ⟨hp2,by omega⟩]
             obtain⟨e',h',ov',S',q1,q2,q3,q4⟩:=C9 (c:=c) (ld+u2 c.text p2 xd) (by omega) (least+u2 c.text S.at_ extra) _ h3 ov v2 he (by dsimp only;omega) (by omega)
             refine⟨h',ov',S',fin e' h' q1,q2,((k3.trans s3).trans v3).trans q3, ?_⟩
             dsimp only at q4
             cases hcl:Ba c.most (ld+u2 c.text p2 xd) (least+u2 c.text S.at_ extra) S.out with
             |ok o=>rw[hcl]at q4;rw[he]at q4;exact q4
             |error k=>rw[hcl]at q4;exact q4
           · rw[if_neg (fun q=>hp2 q.1)]
             have he3:S3.e=700:=by
              rw[hS3,uY,if_neg hp2];simp [vr,he]
             obtain⟨e',q⟩:=xV v2 (least+u2 c.text S.at_ extra) (ld+x) (.inr (by rw[he3];decide))
             exact⟨h3,ov,S3,fin e' h3 q,v2,(k3.trans s3).trans v3,he3,by decide⟩
   · have eg:uY c extra S=(0,{S with e:=700}):=by rw[uY,if_neg hp,vr,if_pos he]
     rw[eg]at k1 k2
     dsimp only at k1 k2
     rw[if_neg hp]
     have gs1:=k2.gs
     refine⟨h1,ov,_, ?_,k2,k3,rfl,by decide⟩
     refine sY (fn:=AP.f61) (e:=[(0,.aC c.s 0),(2,vn dl),(6,I (least+0:Nat)),(20,.bool true)]) (vs:=[]) rfl rfl rfl ?_ rfl
     simp only[I,CP]at *
     simp only[AP.f61,go_sem,lo,k1,gs1]
def wI (t : ByteArray) (most : Int) (ll dl : List Int) : Nat → Nat → List Nat → Rs
 |0,_,_=>.error 700
 | k + 1, p, out => match yd t ll 15 1 0 p with
   |none=>.error 700
   | some (y, p1) =>
     if y<256 then(if most≤out.length then .error 701 else wI t most ll dl k p1 (out++[y.toNat]))
     else if y=256 then .ok (p1,out)
     else match A9 t most dl y.toNat p1 out with
      | .ok (p2,o)=>wI t most ll dl k p2 o
      | .error e=>.error e
theorem EN {t : ByteArray} {most : Int} {dl : List Int} {y p : Nat} {out o : List Nat} {p2 : Nat} (h : A9 t most dl y p out = .ok (p2, o)) : p ≤ p2 ∧ p2 ≤ 8 * t.size := by
 unfold A9 at h
 split at h
 · cases h
 · split at h
   · split at h
     · cases h
     · rename_i hs
       have:=xN hs
       split at h
       · cases h
       · split at h
         · rename_i hq
           split at h
           · have:=Rh (fun r:Rs=>match r with| .ok q=>q.1|_=>0) h
             dsimp only at this
             omega
           · cases h
         · cases h
   · cases h
theorem BR {c:SC} {S:SS} {h:H} {ov:AV} (st:St c S h ov) (a b:AV) (hs:S.e≠0):
 ∃e',Lp AP.A [0,1,2] AP.f40L0 [(0,.aC c.s 0),(1,a),(2,b)] h=some (.exit 0,e',h):=by
 have gs:=st.gs
 refine⟨[(0,.aC c.s 0),(1,a),(2,b),(11,.bool false)],sJ ?_⟩
 have c2:(S.e==0)=false:=tH hs
 simp only[I]at *
 simp only[AP.f40L0,go_sem,gs,c2]
theorem zw {c : SC} (ll dl : List Int) (hll : ll.length < 100000) (hdl : dl.length < 100000) : ∀ (k : Nat) (S : SS) (h : H) (ov : AV), St c S h ov → S.e = 0 → 8 * c.text.size < S.at_ + k →
 ∃e' h' ov' S',(Lp AP.A [0,1,2] AP.f40L0 [(0,.aC c.s 0),(1,vn ll),(2,vn dl)] h=some (.ret,e',h')∨Lp AP.A [0,1,2] AP.f40L0 [(0,.aC c.s 0),(1,vn ll),(2,vn dl)] h=some (.exit 0,e',h'))∧St c S' h' ov'∧Fr c h ov h' ov'∧Fin (wI c.text c.most ll dl k S.at_ S.out) S'
 |0,S,h,ov,st,he,hk=>by have:=st.xS;omega
 | k + 1, S, h, ov, st, he, hk => by
   have gs:=st.gs
   obtain⟨h1,S1,z,s1,s2,s3,s4⟩:=CI ll hll st he
   rw[wI]
   cases hz:yd c.text ll 15 1 0 S.at_ with
   | none =>
     rw[hz]at s4
     obtain⟨s4,s5⟩:=s4
     subst s5
     refine⟨[(0,.aC c.s 0),(1,vn ll),(2,vn dl),(6,I 256),(26,.bool true)],h1,ov,S1,.inl (td ?_),s2,s3,s4,by decide⟩
     simp only[I]at *
     simp only[AP.f40L0,go_sem,gs,he,s1]
   | some zp =>
     obtain⟨z2,p1⟩:=zp
     rw[hz]at s4
     obtain⟨s4,s5⟩:=s4
     subst s5 s4
     have zb:=xN hz
     obtain⟨y,hy⟩:∃n:Nat,z=n:=QN zb.1
     subst hy
     dsimp only
     by_cases c1:(y:Int)<256
     · rw[if_pos c1]
       have w1:IntKind.wrap .u8 (y:Int)=y:=wrap_u8 (by omega)
       obtain⟨h2,ov2,p1',p2',p3'⟩:=Jk s2 (b:=y)
       have step:aK (aQ AP.A) bo AP.f40L0 (ax [(0,.aC c.s 0),(1,vn ll),(2,vn dl)] [0,1,2]) h=some (.normal,[(0,.aC c.s 0),(1,vn ll),(2,vn dl)],h2):=by
        simp only[I]at *
        simp only[AP.f40L0,go_sem,gs,he,s1,QL c1,w1,p1']
       by_cases hm:c.most≤S.out.length
       · rw[if_pos hm]
         have hl:=AS (c:=c) (S:={S with at_:=p1}) y he hm
         obtain⟨e',q⟩:=BR p2' (vn ll) (vn dl) (by rw[hl];decide)
         exact⟨e',h2,ov2,_,.inr (sK step q),p2',s3.trans p3',hl,by decide⟩
       · rw[if_neg hm]
         rw[El (S:={S with at_:=p1}) _ he hm]at p2'
         obtain⟨e',h',ov',S',q1,q2,q3,q4⟩:=zw ll dl hll hdl k _ h2 ov2 p2' rfl (by dsimp only;omega)
         refine⟨e',h',ov',S', ?_,q2,(s3.trans p3').trans q3,q4⟩
         rcases q1 with q1|q1
         · exact .inl (sK step q1)
         · exact .inr (sK step q1)
     · rw [if_neg c1]
       by_cases c2:(y:Int)=256
       · rw[if_pos c2]
         refine⟨[(0,.aC c.s 0),(1,vn ll),(2,vn dl),(6,I y),(26,.bool true)],h1,ov,_,.inl (td ?_),s2,s3, ?_⟩
         · have c2':=tI c2
           simp only[I]at *
           simp only[AP.f40L0,go_sem,gs,he,s1,QJ c1,c2']
         · simp only[Fin];rw[he]
       · rw[if_neg c2]
         have c2':=tH c2
         obtain⟨h2,ov2,S2,r1,r2,r3,r4⟩:=Iy dl hdl s2 he y (by omega)
         have step:aK (aQ AP.A) bo AP.f40L0 (ax [(0,.aC c.s 0),(1,vn ll),(2,vn dl)] [0,1,2]) h=some (.normal,[(0,.aC c.s 0),(1,vn ll),(2,vn dl)],h2):=by
          simp only[I]at *
          simp only[AP.f40L0,go_sem,gs,he,s1,QJ c1,c2',r1]
         dsimp only at r4
         rw[Int.toNat_natCast]
         cases hc:A9 c.text c.most dl y p1 S.out with
         | error q =>
           rw[hc]at r4
           obtain⟨e',q'⟩:=BR r2 (vn ll) (vn dl) (by rw[r4.1];exact r4.2)
           exact⟨e',h2,ov2,S2,.inr (sK step q'),r2,s3.trans r3,r4⟩
         | ok q =>
           obtain⟨p2,o⟩:=q
           rw[hc]at r4
           simp only[Fin]at r4
           subst r4
           have hge:=EN hc
           obtain⟨e',h',ov',S',q1,q2,q3,q4⟩:=zw ll dl hll hdl k _ h2 ov2 r2 rfl (by dsimp only;omega)
           refine⟨e',h',ov',S', ?_,q2,(s3.trans r3).trans q3,q4⟩
           rcases q1 with q1|q1
           · exact .inl (sK step q1)
           · exact .inr (sK step q1)
theorem GK {c:SC} {S:SS} {h:H} {ov:AV} (ll dl:List Int) (hll:ll.length<100000) (hdl:dl.length<100000) (st:St c S h ov) (he:S.e=0):
 ∃h' ov' S',aQ AP.A 40 [.aC c.s 0,vn ll,vn dl] h=some (.bJ [],h')∧St c S' h' ov'∧Fr c h ov h' ov'∧Fin (wI c.text c.most ll dl (8* c.text.size+1) S.at_ S.out) S':=by
 obtain⟨e',h',ov',S',q1,q2,q3,q4⟩:=zw ll dl hll hdl (8* c.text.size+1) S h ov st he (by omega)
 refine⟨h',ov',S', ?_,q2,q3,q4⟩
 rcases q1 with q1|q1
 · refine sY (fn:=AP.f40) (e:=e') (vs:=[]) rfl rfl rfl ?_ rfl
   simp only[AP.f40,go_sem,rH,q1]
 · refine vJ (fn:=AP.f40) (e:=[]) (vs:=[]) rfl rfl rfl ?_ rfl
   simp only[AP.f40,go_sem,rH,q1]
theorem vb (h:H):∀id c,h.get id=some c→h.dG.get id=some c:=fun _ _ q=>q
def B9 (P:AV→Bool):List AV→Nat→Int
 |[],_=> -1
 |v::r,i=>if P v then(i:Int)else B9 P r (i+1)
theorem E1 (P:AV→Bool):∀(l:List AV) (i:Nat),(0≤B9 P l i)↔l.any P=true
 |[],i=>by simp [B9]
 | v :: r, i => by
   rw[B9]
   by_cases h:P v
   · rw[if_pos h];simp [h]
   · rw[if_neg h,E1 P r];simp [h]
theorem Cc {x fv : AV} {cs : List AV} (P : AV → Bool) (hP : ∀ v ∈ cs, ∀ g : H, jZ (aQ AP.A) [v] g fv = some (.bool (P v), g)) (hl : cs.length < 1000000000) (h : H) (rd : Rd h x cs) :
 ∀ (m i : Nat), m + i = cs.length → (∃ e', Lp AP.A [0, 1, 7, 8] AP.f84L0 [(0, x), (1, fv), (7, I cs.length), (8, I i)] h = some (.exit 0, e', h) ∧ B9 P (cs.drop i) i = -1) ∨
   ∃e',Lp AP.A [0,1,7,8] AP.f84L0 [(0,x),(1,fv),(7,I cs.length),(8,I i)] h=some (.ret,e',h)∧look e' 4=I (B9 P (cs.drop i) i)
 | 0, i, hm => by
   left
   refine⟨[(0,x),(1,fv),(7,I cs.length),(8,I i),(9,.bool false)],sJ ?_,by rw[List.drop_eq_nil_of_le (by omega)];rfl⟩
   have c1:¬(i:Int)<(cs.length:Int):=by omega
   simp only[I]at *
   simp only[AP.f84L0,go_sem,QJ c1]
 | m + 1, i, hm => by
   have hi:i<cs.length:=by omega
   obtain⟨v,hv⟩:∃v,cs[i]?=some v:=⟨_,QH hi⟩
   have hd:cs.drop i=v::cs.drop (i+1):=by
    rw[List.drop_eq_getElem_cons hi];rw[QH hi]at hv;rw[ud hv]
   obtain⟨p,p1,p2⟩:=rd.elem hv
   have p3:=p2 h (fun _ _ q=>q)
   have c1:(i:Int)<(cs.length:Int):=by omega
   have hPv:=hP v (uz hv) h
   have w1:IntKind.wrap .i64 ((i:Int)+1)=((i+1:Nat):Int):=uX (n:=i+1) (by omega)
   rw[hd,B9]
   cases hb:P v with
   | true =>
     right
     rw[hb]at hPv
     rw[if_pos rfl]
     refine⟨[(4,I i)],td ?_,rfl⟩
     simp only[I]at *
     simp only[AP.f84L0,go_sem,QL c1,p1,p3,hPv]
   | false =>
     rw[hb]at hPv
     have step:aK (aQ AP.A) bo AP.f84L0 (ax [(0,x),(1,fv),(7,I cs.length),(8,I i)] [0,1,7,8]) h=some (.normal,[(0,x),(1,fv),(7,I cs.length),(8,I (i+1:Nat))],h):=by
      simp only[I]at *
      simp only[AP.f84L0,go_sem,QL c1,p1,p3,hPv,w1]
     rw[if_neg (by decide)]
     rcases Cc P hP hl h rd m (i+1) (by omega)with ⟨e',q1,q2⟩|⟨e',q1,q2⟩
     · exact .inl ⟨e',sK step q1,q2⟩
     · exact .inr ⟨e',sK step q1,q2⟩
theorem Ka {x fv:AV} {cs:List AV} (P:AV→Bool) (hP:∀v∈cs,∀g:H,jZ (aQ AP.A) [v] g fv=some (.bool (P v),g)) (hl:cs.length<1000000000) (h:H) (rd:Rd h x cs):
 aQ AP.A 84 [x,fv] h=some (I (B9 P cs 0),h):=by
 have rd':=rd.mono (vb h)
 have ln:=rd.len
 rcases Cc P hP hl h.dG rd' cs.length 0 (by omega)with ⟨e',q1,q2⟩|⟨e',q1,q2⟩
 · rw[QZ]at q2
   rw[q2]
   refine tB (fn:=AP.f84) (h2:=h.dG) (e:=[(4,I (-1))]) rfl rfl rfl ?_ rfl rfl
   have q1':Lp AP.A [0,1,7,8] AP.f84L0 [(0,x),(1,fv),(7,I cs.length),(8,I 0)] h.dG=some (.exit 0,e',h.dG):=q1
   clear q1
   simp only[I]at *
   simp only[AP.f84,go_sem,rH,ln,q1']
 · rw[QZ]at q2
   refine tB (fn:=AP.f84) (h2:=h.dG) (e:=e') (vs:=[I (B9 P cs 0)]) rfl rfl rfl ?_ (by simp only[AP.f84,cm,mO,q2];rfl) rfl
   have q1':Lp AP.A [0,1,7,8] AP.f84L0 [(0,x),(1,fv),(7,I cs.length),(8,I 0)] h.dG=some (.ret,e',h.dG):=q1
   clear q1
   simp only[I]at *
   simp only[AP.f84,go_sem,rH,ln,q1']
theorem BU {x fv:AV} {cs:List AV} (P:AV→Bool) (hP:∀v∈cs,∀g:H,jZ (aQ AP.A) [v] g fv=some (.bool (P v),g)) (hl:cs.length<1000000000) (h:H) (rd:Rd h x cs):
 aQ AP.A 83 [x,fv] h=some (.bool (cs.any P),h):=by
 have k1:=Ka P hP hl h.dG (rd.mono (vb h))
 have ha:=E1 P cs 0
 refine tB (fn:=AP.f83) (h2:=h.dG) (e:=[(4,.bool (cs.any P))]) rfl rfl rfl ?_ rfl rfl
 cases hb:cs.any P with
 | true =>
   have c1:0≤B9 P cs 0:=ha.2 hb
   simp only[I]at *
   simp only[AP.f83,go_sem,k1,QL c1]
 | false =>
   have c1:¬0≤B9 P cs 0:=by rw[ha,hb];decide
   simp only[I]at *
   simp only[AP.f83,go_sem,k1,QJ c1]
def DS (v:AV):Bool:=match v with| .int _ n=>decide (n<0)||decide (15<n)|_=>true
theorem NH (n:Int) (h:H):aQ AP.A 82 [I n] h=some (.bool (DS (I n)),h):=by
 by_cases c1:n<0
 · refine tB (fn:=AP.f82) (h2:=h.dG) (e:=[(2,.bool true)]) rfl rfl rfl ?_ rfl ?_
   · simp only[I]at *
     simp only[AP.f82,go_sem,QL c1]
   · simp [DS,I,c1];rfl
 · refine tB (fn:=AP.f82) (h2:=h.dG) (e:=[(2,.bool (decide (15<n)))]) rfl rfl rfl ?_ rfl ?_
   · simp only[I]at *
     simp only[AP.f82,go_sem,QJ c1]
   · simp [DS,I,c1];rfl
def zH (l:List Int):Bool:=decide (1≤l.length)&&decide (l.length≤288)&& !((ints l).any DS)
theorem KE (h:H) (x:AV) (l:List Int) (hl:l.length<100000) (rd:Rd h x (ints l)):aQ AP.A 81 [x] h=some (.bool (zH l),h):=by
 have hP:∀v∈ints l,∀g:H,jZ (aQ AP.A) [v] g (.fn 82 [] [])=some (.bool (DS v),g):=by
  intro v hv g
  obtain⟨n,_,rfl⟩:=QP.1 hv
  rw[nq];exact NH n g
 have k1:=BU DS hP (by simp;omega) h.dG (rd.mono (vb h))
 have ln:=rd.len
 rw[pf]at ln
 refine tB (fn:=AP.f81) (h2:=h.dG) (e:=[(2,.bool (zH l))]) rfl rfl rfl ?_ rfl rfl
 unfold zH
 by_cases c1:1≤l.length
 · have c1':(1:Int)≤(l.length:Int):=by omega
   by_cases c2:l.length≤288
   · have c2':(l.length:Int)≤288:=by omega
     simp only[I]at *
     simp only[AP.f81,go_sem,ln,QL c1',QL c2',QL c1,QL c2,k1,Bool.true_and]
   · have c2':¬(l.length:Int)≤288:=by omega
     simp only[I]at *
     simp only[AP.f81,go_sem,ln,QL c1',QJ c2',QL c1,QJ c2,Bool.true_and,Bool.false_and]
 · have c1':¬(1:Int)≤(l.length:Int):=by omega
   simp only[I]at *
   simp only[AP.f81,go_sem,ln,QJ c1',QJ c1,Bool.false_and]
def vh (l:List Int):Int:=if zH l=false then 300 else if vg l 15<0 then 301 else if 0<vg l 15 then 302 else 0
theorem AO {l:List Int} (h:zH l=true):∀y∈l,0≤y∧y<16:=by
 intro y hy
 simp only[zH,uw,Bool.not_eq_true',List.any_eq_false]at h
 have:=h.2 (I y) (QP.2 ⟨y,hy,rfl⟩)
 simp [DS,I]at this
 omega
theorem DU (h : H) (x : AV) (l : List Int) (hl : l.length < 100000) (rd : Rd h x (ints l)) : aQ AP.A 65 [x] h = some (I (vh l), h) := by
 have rd':=rd.mono (vb h)
 have k1:=KE h.dG x l hl rd'
 unfold vh
 by_cases hm:zH l=true
 · have k2:=yN h.dG x l hl (AO hm) rd'
   have hb:vn l=.aJ (mX 49 (v7 l)) 0:=rfl
   have g:(mX 49 (v7 l))[48]?=some (I (vg l 15)):=by rw[fy (by omega)];rfl
   rw[hb]at k2
   clear hb
   generalize mX 49 (v7 l)=T at k2 g
   rw[hm]at k1 ⊢
   rw[if_neg (by decide)]
   by_cases c1:vg l 15<0
   · rw[if_pos c1]
     refine tB (fn:=AP.f65) (h2:=h.dG) (e:=[(2,I 301)]) rfl rfl rfl ?_ rfl rfl
     simp only[I]at *
     simp only[AP.f65,go_sem,k1,k2,g,QL c1]
   · rw[if_neg c1]
     by_cases c2:0<vg l 15
     · rw[if_pos c2]
       refine tB (fn:=AP.f65) (h2:=h.dG) (e:=[(2,I 302)]) rfl rfl rfl ?_ rfl rfl
       simp only[I]at *
       simp only[AP.f65,go_sem,k1,k2,g,QJ c1,QL c2]
     · rw[if_neg c2]
       refine tB (fn:=AP.f65) (h2:=h.dG) (e:=[(2,I 0)]) rfl rfl rfl ?_ rfl rfl
       simp only[I]at *
       simp only[AP.f65,go_sem,k1,k2,g,QJ c1,QJ c2]
 · have hm':zH l=false:=by simpa using hm
   rw[hm']at k1 ⊢
   rw[if_pos rfl]
   refine tB (fn:=AP.f65) (h2:=h.dG) (e:=[(2,I 300)]) rfl rfl rfl ?_ rfl rfl
   simp only[I]at *
   simp only[AP.f65,go_sem,k1]
def JD:List Int→Int→Int
 |[],s=>s
 |x::r,s=>JD r (s+x)
theorem Bl {x:AV} {l:List Int} (hl:l.length<100000) (hr:∀y∈l,0≤y∧y<16) (h:H) (rd:Rd h x (ints l)):
 ∀(q p:List Int) (s:Int),l=p++q→0≤s→s≤16* p.length→∃e',Lp AP.A [3,6,7,8] AP.f66L0 [(3,I s),(6,x),(7,I l.length),(8,I p.length)] h=some (.exit 0,e',h)∧look e' 3=I (JD q s)
 | [], p, s, hpq, hs0, hs1 => by
   refine⟨[(3,I s),(6,x),(7,I l.length),(8,I p.length),(9,.bool false)],sJ ?_,rfl⟩
   have c1:¬(p.length:Int)<(l.length:Int):=by rw[hpq];simp
   simp only[I]at *
   simp only[AP.f66L0,go_sem,QJ c1]
 | y :: q, p, s, hpq, hs0, hs1 => by
   have hlen:l.length=p.length+(q.length+1):=by rw[hpq];simp
   have c1:(p.length:Int)<(l.length:Int):=by omega
   have hy:=hr y (by rw[hpq];simp)
   have hv:(ints l)[p.length]?=some (I y):=sf (by rw[hpq];simp)
   obtain⟨a,p1,p2⟩:=rd.elem hv
   have p3:=p2 h (fun _ _ q=>q)
   have w1:IntKind.wrap .i64 (s+y)=s+y:=s8 (by omega) (by omega)
   have w2:IntKind.wrap .i64 ((p.length:Int)+1)=(((p++[y]).length:Nat):Int):=by
    rw[uR];exact uX (n:=p.length+1) (by omega)
   have step:aK (aQ AP.A) bo AP.f66L0 (ax [(3,I s),(6,x),(7,I l.length),(8,I p.length)] [3,6,7,8]) h=some (.normal,[(3,I (s+y)),(6,x),(7,I l.length),(8,I (p++[y]).length)],h):=by
    simp only[I]at *
    simp only[AP.f66L0,rW,qg,qc,qf,qe,ot,sB,sA,rX,rY,r8,rZ,rT,rV,rS,rR,rM,rO,rh,ri,pE,mY,mh,my,kG,rJ,rI,oB,oC,sD,qK,sx,qw,n9,nY,Nat.reduceEqDiff,ne_eq,not_false_eq_true,lh,kV,QL c1,p1,p3,w1,w2]
   obtain⟨e',q1,q2⟩:=Bl hl hr h rd q (p++[y]) (s+y) (by rw[hpq];simp) (by omega) (by simp;omega)
   exact⟨e',sK step q1,q2⟩
def wL (l:List Int):Bool:=decide (JD l 0≤1)
theorem Jr (h:H) (x:AV) (l:List Int) (hl:l.length<100000) (hr:∀y∈l,0≤y∧y<16) (rd:Rd h x (ints l)):aQ AP.A 66 [x] h=some (.bool (wL l),h):=by
 have rd':=rd.mono (vb h)
 have ln:=rd.len
 rw[pf]at ln
 obtain⟨e',q1,q2⟩:=Bl hl hr h.dG rd' l [] 0 rfl (by omega) (by simp)
 have q1':Lp AP.A [3,6,7,8] AP.f66L0 [(3,I 0),(6,x),(7,I l.length),(8,I 0)] h.dG=some (.exit 0,e',h.dG):=q1
 clear q1
 refine tB (fn:=AP.f66) (h2:=h.dG) (e:=[(2,.bool (wL l))]) rfl rfl rfl ?_ rfl rfl
 simp only[I,wL]at *
 simp only[AP.f66,go_sem,rH,ln,q1',q2]
theorem CR {n:Nat} (h:n<18446744073709551616):IntKind.wrap .u64 (n:Int)=n:=by
 have e:IntKind.wrap .u64 (n:Int)=(n:Int)%18446744073709551616:=by simp [IntKind.wrap,IntKind.bits,IntKind.signed]
 rw[e];omega
theorem BF {a:Nat} (ha:a<4294967296):bits .and .u64 (a:Int) 4294967295=(a:Int):=by
 show IntKind.wrap .u64 (((BitVec.ofInt 64 (a:Int)&&&BitVec.ofInt 64 ((4294967295:Nat):Int)).toNat:Nat):Int)=_
 rw[BitVec.toNat_and,xu 64 a (by omega),xu 64 4294967295 (by omega)]
 rw[show 4294967295=2^32-1 from rfl,Nat.and_two_pow_sub_one_eq_mod,Nat.mod_eq_of_lt (by simpa using ha)]
 exact CR (by omega)
theorem Hk {a:Nat} (ha:a<4294967296):oM .shr .u64 (a:Int) 32=some (.int .u64 0):=by
 have:(a:Int).fdiv 4294967296=0:=by rw[Int.fdiv_eq_ediv_of_nonneg _ (by omega)];omega
 simp [oM,IntKind.bits,this]
theorem Ke (h:H) (a b:Nat) (ha:a<4294967296) (hb:b<4294967296) (hab:a* b<4294967296):aQ AP.A 78 [.int .u64 a,.int .u64 b] h=some (.bJ [.int .u64 0,.int .u64 (a* b:Nat)],h):=by
 have a1:=BF ha
 have a2:=BF hb
 have s1:=Hk ha
 have s2:=Hk hb
 have s3:=Hk hab
 have w1:IntKind.wrap .u64 ((a:Int)* b)=((a* b:Nat):Int):=by rw[show(a:Int)* b=((a* b:Nat):Int)by simp];exact CR (by omega)
 have w0:IntKind.wrap .u64 0=0:=by decide
 have z1:(0:Int)* b=0:=by omega
 have z2:(a:Int)* 0=0:=by omega
 have s0:oM .shr .u64 0 32=some (.int .u64 0):=Hk (a:=0) (by omega)
 have a0:bits .and .u64 0 4294967295=0:=BF (a:=0) (by omega)
 refine tB (fn:=AP.f78) (h2:=h.dG) (e:=[(4,.int .u64 0),(5,.int .u64 (a* b:Nat))]) rfl rfl rfl ?_ rfl rfl
 simp only[AP.f78,go_sem,a1,a2,s1,s2,s3,w1,w0,z1,z2,s0,a0,Int.zero_mul,Int.add_zero]
theorem O6 (h:H) (a b:Nat) (ha:a<4294967296) (hb:b<4294967296) (hab:a* b<4294967296):aQ AP.A 63 [.int .u64 a,.int .u64 b] h=some (.bJ [.int .u64 0,.int .u64 (a* b:Nat)],h):=by
 have k:=Ke h.dG a b ha hb hab
 refine tB (fn:=AP.f63) (h2:=h.dG) (e:=[(4,.int .u64 0),(5,.int .u64 (a* b:Nat))]) rfl rfl rfl ?_ rfl rfl
 simp only[AP.f63,go_sem,k]
theorem xM:∀(B V A C:List AV),V.length=B.length→setFrom (A++(B++C)) A.length V=A++(V++C)
 |[],[],A,C,_=>rfl
 | b :: B, v :: V, A, C, h => by
   rw[oL]
   have h1:(A++(b::B++C)).set A.length v=(A++[v])++(B++C):=by
    rw[List.set_append_right _ _ (uv _)];simp
   rw[h1]
   have h2:=xM B V (A++[v]) C (by simpa using h)
   rw[uR]at h2
   rw[show A.length+1=A.length+[v].length by rfl,h2];simp
 |[],v::V,A,C,h=>by simp at h
 |b::B,[],A,C,h=>by simp at h
theorem Hw (n:Nat) {v:AV} (hv:v.sc=true):AV.aB (List.replicate n v)=true:=by
 induction n with
 |zero=>rfl
 |succ n ih=>rw[List.replicate_succ,pJ,hv,ih];rfl
theorem En (v:AV):∀n,dx n [v]=List.replicate n v
 |0=>rfl
 |n+1=>by rw[dx,En v n];rfl
theorem Jo {k y:Nat} (h:k≤y):jQ (I k) y=some k:=by
 simp [jQ,nh,I];omega
theorem Ir {h:H} {id N k:Nat} {cs:List AV} (hg:h.get id=some cs) (hN:cs.length=N) (hk:k≤N):rz h 1 (.aD id 0 N 1) (some (I k)) none none=some (.aD id k (N-k) 1):=by
 simp [rz,hg,hN,aA,Jo hk]
theorem F4 {h:H} {id N M k:Nat} {cs:List AV} (hg:h.get id=some cs) (hN:cs.length=N) (hM:M≤N) (hk:k≤N):rz h 1 (.aD id 0 M 1) none (some (I k)) none=some (.aD id 0 k 1):=by
 have:jQ (I k) N=some k:=Jo hk
 simp [rz,hg,hN,aA,this,hM]
def yw (v:AV) (k N:Nat):List AV:=List.replicate k v++List.replicate (N-k) (I 0)
theorem Jl {v:AV} {k N:Nat} (h:k≤N):(yw v k N).length=N:=by simp [yw];omega
theorem FE {v:AV} {k N m:Nat} (h:k+m≤N):setFrom (yw v k N) k (List.replicate m v)=yw v (k+m) N:=by
 have e:List.replicate (N-k) (I 0)=List.replicate m (I 0)++List.replicate (N-(k+m)) (I 0):=by
  rw[List.replicate_append_replicate];congr 1;omega
 have:=xM (List.replicate m (I 0)) (List.replicate m v) (List.replicate k v) (List.replicate (N-(k+m)) (I 0)) (by simp)
 rw[QV]at this
 rw[yw,e,this,yw,←QS,List.replicate_append_replicate]
theorem Bi (v : AV) (hv : v.sc = true) (N id : Nat) (hN : N < 1000000000) : ∀ (f k : Nat) (h : H), N - k ≤ f → 0 < k → k ≤ N → h.get id = some (yw v k N) → h.floor ≤ id →
 ∃e' h',Lp AP.A [7,8] AP.f43L0 [(7,.aD id 0 N 1),(8,I k)] h=some (.exit 0,e',h')∧look e' 7=.aD id 0 N 1∧h'.get id=some (yw v N N)∧h'.next=h.next
 | f, k, h, hf, hk, hkN, hg, hfl => by
   by_cases hlt:k<N
   · have c1:(k:Int)<(N:Int):=by omega
     have hlen:=Jl (v:=v) hkN
     have s1:=Ir hg hlen hkN
     have s2:=F4 hg hlen (uv N) hkN
     obtain⟨m,hm⟩:∃m,m=Nat.min k (N-k):=⟨_,rfl⟩
     have hm1:0<m∧m≤k∧k+m≤N:=by
      rw[hm];have:Nat.min k (N-k)=min k (N-k):=rfl
      rw[this];omega
     have hsrc:aR h 1 (.aD id 0 k 1)=some (k,List.replicate k v):=by
      simp only[aR,if_true,hg,uo]
      rw[if_pos (by rw[hlen];omega)]
      simp [yw]
     have cp:gK h 1 (.aD id k (N-k) 1) (.aD id 0 k 1)=some (I m,h.set id (yw v (k+m) N)):=by
      unfold gK
      rw[hsrc,uo]
      simp only[Hw k hv,hfl,and_self,true_and,if_true,hg,uo,hlen]
      rw[if_pos (by omega),←hm,Nat.mul_one,List.take_replicate,Nat.min_eq_left hm1.2.1,FE hm1.2.2];rfl
     have w1:IntKind.wrap .i64 ((k:Int)+m)=((k+m:Nat):Int):=by rw[show(k:Int)+m=((k+m:Nat):Int)by omega];exact uX (by omega)
     have al:iG false (.aD id 0 N 1)=some (I N):=rfl
     have step:aK (aQ AP.A) bo AP.f43L0 (ax [(7,.aD id 0 N 1),(8,I k)] [7,8]) h=some (.normal,[(7,.aD id 0 N 1),(8,I (k+m:Nat))],h.set id (yw v (k+m) N)):=by
      simp only[I]at *
      simp only[AP.f43L0,go_sem,al,QL c1,QK,Re,s1,s2,cp,w1]
     match f,hf with
     |0,hf=>omega
     | f + 1, hf =>
       obtain⟨e',h',q1,q2,q3,q4⟩:=Bi v hv N id hN f (k+m) (h.set id (yw v (k+m) N)) (by omega) (by omega) (by omega) (by rw[H.dd,if_pos rfl,hg];rfl) (by simpa using hfl)
       exact⟨e',h',sK step q1,q2,q3,by rw[q4];simp⟩
   · have hkN':k=N:=by omega
     subst hkN'
     have c1:¬(k:Int)<(k:Int):=by omega
     have al:iG false (.aD id 0 k 1)=some (I k):=rfl
     refine⟨[(7,.aD id 0 k 1),(8,I k),(37,.bool false)],h,sJ ?_,rfl,hg,rfl⟩
     simp only[I]at *
     simp only[AP.f43L0,go_sem,al,QJ c1]
theorem xC (h : H) (x : AV) (y : Int) (N : Nat) (hN : N < 1000000000) (rd : Rd h x [I y]) : aQ AP.A 43 [x, I N] h = some (.aU false (ints (List.replicate N y)) 0 N 1, h) := by
 have rd':=rd.mono (vb h)
 have ln:=rd.len
 have mc:=O6 h.dG 1 N (by omega) (by omega) (by omega)
 rw[Nat.one_mul]at mc
 have mc':aQ AP.A 63 [.int .u64 1,.int .u64 N] h.dG=some (.bJ [.int .u64 0,.int .u64 N],h.dG):=mc
 clear mc
 have c0:¬(N:Int)<0:=by omega
 have w1:IntKind.wrap .u64 1=1:=by decide
 have w2:IntKind.wrap .u64 (N:Int)=N:=CR (by omega)
 have w3:IntKind.wrap .i64 (N:Int)=N:=uX (by omega)
 have c1:¬(0:Int)<0:=by omega
 have c2:¬(9223372036854775807:Int)<(N:Int):=by omega
 obtain⟨id,hid⟩:∃i,i=h.next:=⟨_,rfl⟩
 obtain⟨g1,hg1⟩:∃g,g=h.dG.alloc (List.replicate N (I 0)):=⟨_,rfl⟩
 have e1:g1.get id=some (List.replicate N (I 0)):=by rw[hg1,H.aV,if_pos (by rw[hid];rfl)]
 have bt:aX [(29,I N),(28,.int .u64 N),(0,x),(6,.int .u64 N)] (.iw 1 8 [I 0] (.t 29) (.t 29))=some (List.replicate N (I 0),fun i=>.aD i 0 N 1):=by
  have c3:(8:Int)* N≤281474976710656:=by omega
  have c4:(N:Int)≤9223372036854775807:=by omega
  simp [aX,I,En,c3,c4]
 have hcp : ∃ (k : Nat) (h2 : H), gK g1 1 (.aD id 0 N 1) x = some (I k, h2) ∧ ((k = 0 ∧ N = 0) ∨ (k = 1 ∧ 0 < N)) ∧ h2.get id = some (yw (I y) k N) ∧ h2.floor = h.next ∧ h2.next = g1.next := by
  have rd2:aR g1 1 x=some (1,[I y]):=(rd.mono (fun i c q=>by rw[hg1,H.aV,if_neg (by have:=h.lt _ _ q;show i≠h.next;omega)];exact q)).1
  refine⟨Nat.min 1 N,g1.set id (yw (I y) (Nat.min 1 N) N), ?_, ?_,by rw[H.dd,if_pos rfl,e1];rfl,by rw[hg1];simp,by simp⟩
  · unfold gK
    rw[rd2,uo]
    have hf:g1.floor≤id:=by rw[hg1,hid];simp
    have ha:AV.aB [I y]=true:=rfl
    simp only[ha,hf,and_self,true_and,if_true,e1,uo,QV]
    rw[if_pos (by omega),Nat.mul_one]
    have hz:List.replicate N (I 0)=yw (I y) 0 N:=by simp [yw]
    rw[hz]
    have ht:[I y].take (Nat.min 1 N)=List.replicate (Nat.min 1 N) (I y):=by
     cases N with
     |zero=>rfl
     | succ n => have : Nat.min 1 (n + 1) = 1 := by show min 1 (n + 1) = 1; omega
                 rw[this];rfl
    rw[ht,FE (by show 0+min 1 N≤N;omega),uC];rfl
  · cases N with
    |zero=>left;exact⟨rfl,rfl⟩
    |succ n=>right;exact⟨by show min 1 (n+1)=1;omega,by omega⟩
 obtain⟨k,h2,cp1,cp2,cp3,cp4,cp5⟩:=hcp
 have lp:∃e' h3,Lp AP.A [7,8] AP.f43L0 [(7,.aD id 0 N 1),(8,I k)] h2=some (.exit 0,e',h3)∧look e' 7=.aD id 0 N 1∧h3.get id=some (yw (I y) N N):=by
  rcases cp2 with ⟨rfl,rfl⟩|⟨rfl,hN0⟩
  · refine⟨[(7,.aD id 0 0 1),(8,I 0),(37,.bool false)],h2,sJ ?_,rfl,cp3⟩
    have al:iG false (.aD id 0 0 1)=some (I 0):=rfl
    simp only[I]at *
    simp only[AP.f43L0,go_sem,al,Int.natCast_zero]
  · obtain⟨e',h',q1,q2,q3,_⟩:=Bi (I y) rfl N id hN N 1 h2 (by omega) (by omega) (by omega) cp3 (by rw[cp4,hid];exact uv _)
    exact⟨e',h',q1,q2,q3⟩
 obtain⟨e',h3,q1,q2,q3⟩:=lp
 refine tB (fn:=AP.f43) (h2:=h3) (e:=[(4,.aD id 0 N 1)]) (vs:=[.aD id 0 N 1]) rfl rfl rfl ?_ rfl ?_
 · have al:iG false x=some (I 1):=ln
   have hn:h.dG.next=id:=by rw[hid];rfl
   simp only[I]at *
   simp only[AP.f43,go_sem,al,QJ c0,w1,w2,w3,mc',QJ c1,QJ c2,bt,←hg1,hn,cp1,rH,q1,q2]
 · have hr:yw (I y) N N=ints (List.replicate N y):=by simp [yw,ints]
   show snap h3.get h.next 16 true (.aD id 0 N 1)=_
   unfold snap
   rw[if_neg (by omega),q3,uo,hr,if_pos (by simp)]
   have ht:((ints (List.replicate N y)).drop 0).take (N* 1)=ints (List.replicate N y):=by
    rw[QZ,Nat.mul_one,uM (by simp)]
   rw[ht,wR];rfl
theorem M8 (h:H) (N:Nat) (hN0:0<N) (hN:N<1000000000):aQ AP.A 76 [.aO,I N] h=some (.aD h.next 0 0 1,h.alloc (List.replicate N (I 0))):=by
 have c0:¬(N:Int)<0:=by omega
 have c1:(0:Int)<N:=by omega
 have w0:IntKind.wrap .i64 (0-0)=0:=by decide
 have w1:IntKind.wrap .i64 ((N:Int)-0)=N:=by rw[Int.sub_zero];exact uX (by omega)
 have a1:pF .aO=some (I 0):=rfl
 have a2:iG false .aO=some (I 0):=rfl
 have a3:rz h 1 .aO none (some (I 0)) none=some .aO:=rfl
 have a4:gJ h 1 8 [I 0] .aO (I N)=some (.aD h.next 0 N 1,h.alloc (List.replicate N (I 0))):=by
  have c3:(N:Int)≤281474976710656:=by omega
  have c4:(N:Int)* 8≤281474976710656:=by omega
  have c5:roomy 8 N=true:=by simp [roomy];omega
  simp [gJ,I,c3,c4,c5,En,hN0]
 have a5:rz (h.alloc (List.replicate N (I 0))) 1 (.aD h.next 0 N 1) none (some (I 0)) none=some (.aD h.next 0 0 1):=
  F4 (by rw[H.aV,if_pos rfl]) (by simp) (uv _) (Nat.zero_le _)
 refine sY (fn:=AP.f76) (e:=[(4,.aD h.next 0 0 1)]) rfl rfl rfl ?_ rfl
 simp only[I]at *
 simp only[AP.f76,go_sem,QJ c0,QL c1,w0,w1,a1,a2,QK,Re,a3,a4,a5]
def cat (ps:List (AV×List Int)):List Int:=ps.flatMap (·.2)
theorem EH (p:AV×List Int) (ps:List (AV×List Int)):cat (p::ps)=p.2++cat ps:=by simp [cat]
theorem z7 {h:H} {x:AV} {all:List (AV×List Int)} (rd:Rd h x (all.map (·.1))) (hp:∀p∈all,Rd h p.1 (ints p.2)) (hT:(cat all).length<1000000000) (hA:all.length<1000000000):
 ∀(ps qs:List (AV×List Int)),all=qs++ps→
 ∃e',Lp AP.A [0,3,9,10,11] AP.f62L1 [(0,x),(3,I (cat qs).length),(9,x),(10,I all.length),(11,I qs.length)] h=some (.exit 0,e',h)∧look e' 0=x∧look e' 3=I (cat all).length
 | [], qs, hq => by
   rw[QY]at hq;subst hq
   refine⟨[(0,x),(3,I (cat all).length),(9,x),(10,I all.length),(11,I all.length),(12,.bool false)],sJ ?_,rfl,rfl⟩
   have c1:¬(all.length:Int)<(all.length:Int):=by omega
   simp only[I]at *
   simp only[AP.f62L1,go_sem,QJ c1]
 | p :: ps, qs, hq => by
   have hlen:all.length=qs.length+(ps.length+1):=by rw[hq];simp
   have hct:(cat all).length=(cat qs).length+(p.2.length+(cat ps).length):=by rw[hq];simp [cat]
   have c1:(qs.length:Int)<(all.length:Int):=by omega
   have hv:(all.map (·.1))[qs.length]?=some p.1:=by rw[hq];simp
   obtain⟨a,p1,p2⟩:=rd.elem hv
   have p3:=p2 h (fun _ _ q=>q)
   have ln:=(hp p (by rw[hq];simp)).len
   rw[pf]at ln
   have w1:IntKind.wrap .i64 (((cat qs).length:Int)+p.2.length)=((cat (qs++[p])).length:Int):=by
    rw[show((cat qs).length:Int)+p.2.length=((cat (qs++[p])).length:Int)by simp [cat]];exact uX (by simp [cat]at *;omega)
   have c2:¬((cat (qs++[p])).length:Int)<0:=by omega
   have w2:IntKind.wrap .i64 ((qs.length:Int)+1)=((qs++[p]).length:Int):=by
    rw[uR];exact uX (n:=qs.length+1) (by omega)
   obtain⟨e',q1,q2,q3⟩:=z7 rd hp hT hA ps (qs++[p]) (by rw[hq];simp)
   have step:aK (aQ AP.A) bo AP.f62L1 (ax [(0,x),(3,I (cat qs).length),(9,x),(10,I all.length),(11,I qs.length)] [0,3,9,10,11]) h=some (.normal,[(0,x),(3,I (cat (qs++[p])).length),(9,x),(10,I all.length),(11,I (qs++[p]).length)],h):=by
    generalize hB:(qs++[p]).length=B at *
    simp only[I]at *
    simp only[AP.f62L1,go_sem,QL c1,p1,p3,ln,w1,QJ c2,w2]
   exact⟨e',sK step q1,q2,q3⟩
theorem z9 {h0 : H} {x : AV} {all : List (AV × List Int)} (rd : Rd h0 x (all.map (·.1))) (hp : ∀ p ∈ all, Rd h0 p.1 (ints p.2)) (hT : (cat all).length < 1000000000) (hA : all.length < 1000000000) (id : Nat) (hid : h0.next ≤ id) :
 ∀(ps qs:List (AV×List Int)) (h:H),all=qs++ps→h.floor≤id→h.get id=some (ints (cat qs)++List.replicate (cat ps).length (I 0))→(∀i c,h0.get i=some c→h.get i=some c)→
 ∃e' h',Lp AP.A [6,25,26,27] AP.f62L0 [(6,.aD id 0 (cat qs).length 1),(25,x),(26,I all.length),(27,I qs.length)] h=some (.exit 2,e',h')∧look e' 6=.aD id 0 (cat all).length 1∧h'.get id=some (ints (cat all))
 | [], qs, h, hq, hf, hg, hm => by
   rw[QY]at hq;subst hq
   refine⟨[(6,.aD id 0 (cat all).length 1),(25,x),(26,I all.length),(27,I all.length),(28,.bool false)],h,sJ ?_,rfl,by rw[hg];simp [cat]⟩
   have c1:¬(all.length:Int)<(all.length:Int):=by omega
   simp only[I]at *
   simp only[AP.f62L0,go_sem,QJ c1]
 | p :: ps, qs, h, hq, hf, hg, hm => by
   have hlen:all.length=qs.length+(ps.length+1):=by rw[hq];simp
   have hct:(cat all).length=(cat qs).length+(p.2.length+(cat ps).length):=by rw[hq];simp [cat]
   have hcq:(cat (qs++[p])).length=(cat qs).length+p.2.length:=by simp [cat]
   have c1:(qs.length:Int)<(all.length:Int):=by omega
   have hv:(all.map (·.1))[qs.length]?=some p.1:=by rw[hq];simp
   obtain⟨a,p1,p2⟩:=rd.elem hv
   have p3:=p2 h hm
   have src:=((hp p (by rw[hq];simp)).mono hm).1
   rw[pf]at src
   have w2:IntKind.wrap .i64 ((qs.length:Int)+1)=((qs++[p]).length:Int):=by
    rw[uR];exact uX (n:=qs.length+1) (by omega)
   have hz:List.replicate (cat (p::ps)).length (I 0)=List.replicate p.2.length (I 0)++List.replicate (cat ps).length (I 0):=by
    rw[List.replicate_append_replicate,EH,uR]
   have hap:∃h1,j9 h 1 8 (.aD id 0 (cat qs).length 1) p.1=some (.aD id 0 (cat (qs++[p])).length 1,h1)∧h1.floor=h.floor∧h1.get id=some (ints (cat (qs++[p]))++List.replicate (cat ps).length (I 0))∧∀i c,h0.get i=some c→h1.get i=some c:=by
    by_cases h0':p.2.length=0
    · have hp2:p.2=[]:=List.length_eq_zero_iff.1 h0'
      refine⟨h, ?_,rfl, ?_,hm⟩
      · unfold j9
        rw[src,uo]
        unfold dC
        rw[if_pos (by simp [h0']),hcq,h0',Nat.add_zero]
      · rw[hg,EH,hp2];simp [cat,hp2]
    · refine⟨h.set id (ints (cat (qs++[p]))++List.replicate (cat ps).length (I 0)), ?_,by simp,by rw[H.dd,if_pos rfl,hg];rfl,fun i c q=> ?_⟩
      · unfold j9
        rw[src,uo]
        have hs:setFrom (ints (cat qs)++List.replicate (cat (p::ps)).length (I 0)) (cat qs).length (ints p.2)=ints (cat (qs++[p]))++List.replicate (cat ps).length (I 0):=by
         have:=xM (List.replicate p.2.length (I 0)) (ints p.2) (ints (cat qs)) (List.replicate (cat ps).length (I 0)) (by simp)
         rw[pf]at this
         rw[hz,this];simp [cat,pd]
        unfold dC
        dsimp only
        rw[if_neg h0',if_neg (by simp [js])]
        rw[if_pos ⟨rfl,hf⟩,hg,uo,if_pos (by rw[hz];simp)]
        rw[Nat.mul_one,uC,hs,hcq]
      · rw[H.dd,if_neg (by have:=h0.lt _ _ q;omega)];exact hm i c q
   obtain⟨h1,ap1,ap2,ap3,ap4⟩:=hap
   obtain⟨e',h',q1,q2,q3⟩:=z9 rd hp hT hA id hid ps (qs++[p]) h1 (by rw[hq];simp) (by rw[ap2];exact hf) ap3 ap4
   have step:aK (aQ AP.A) bo AP.f62L0 (ax [(6,.aD id 0 (cat qs).length 1),(25,x),(26,I all.length),(27,I qs.length)] [6,25,26,27]) h=some (.normal,[(6,.aD id 0 (cat (qs++[p])).length 1),(25,x),(26,I all.length),(27,I (qs++[p]).length)],h1):=by
    generalize hB:(qs++[p]).length=B at *
    simp only[I]at *
    simp only[AP.f62L0,go_sem,QL c1,p1,p3,ap1,w2]
   exact⟨e',h',sK step q1,q2,q3⟩
def vK (l:List Int):AV:=.aU false (ints l) 0 l.length 1
theorem xc (h:H) (l:List Int):Rd h (vK l) (ints l):=by
 refine⟨?_,by intro s e;cases e⟩
 simp [aR,vK,uM]
theorem BT (h:H) (x:AV) (ps:List (AV×List Int)) (rd:Rd h x (ps.map (·.1))) (hp:∀p∈ps,Rd h p.1 (ints p.2)) (hT:(cat ps).length<1000000000) (hA:ps.length<1000000000) (h0:0<(cat ps).length):aQ AP.A 62 [x] h=some (vK (cat ps),h):=by
 have rd':=rd.mono (vb h)
 have hp':∀p∈ps,Rd h.dG p.1 (ints p.2):=fun p q=>(hp p q).mono (vb h)
 have ln:=rd.len
 rw[Ri]at ln
 obtain⟨e1,a1,a2,a3⟩:=z7 rd' hp' hT hA ps [] rfl
 have a1':Lp AP.A [0,3,9,10,11] AP.f62L1 [(0,x),(3,I 0),(9,x),(10,I ps.length),(11,I 0)] h.dG=some (.exit 0,e1,h.dG):=a1
 clear a1
 have gc:=M8 h.dG (cat ps).length h0 hT
 obtain⟨h1,hh1⟩:∃g,g=h.dG.alloc (List.replicate (cat ps).length (I 0)):=⟨_,rfl⟩
 rw[←hh1]at gc
 obtain⟨e2,h2,b1,b2,b3⟩:=z9 rd' hp' hT hA h.next (uv _) ps [] h1 rfl (by rw[hh1];simp) (by rw[hh1,H.aV,if_pos (show h.next=h.dG.next from rfl)];rfl)
  (fun i c q=>by rw[hh1,H.aV,if_neg (by have:=h.dG.lt _ _ q;omega)];exact q)
 have b1':Lp AP.A [6,25,26,27] AP.f62L0 [(6,.aD h.next 0 0 1),(25,x),(26,I ps.length),(27,I 0)] h1=some (.exit 2,e2,h2):=b1
 clear b1
 have hn:h.dG.next=h.next:=rfl
 refine tB (fn:=AP.f62) (h2:=h2) (e:=[(2,.aD h.next 0 (cat ps).length 1)]) (vs:=[.aD h.next 0 (cat ps).length 1]) rfl rfl rfl ?_ rfl ?_
 · simp only[I]at *
   simp only[AP.f62,go_sem,ln,rH,a1',a2,a3,gc,hn,b1',b2]
 · show snap h2.get h.next 16 true (.aD h.next 0 (cat ps).length 1)=_
   unfold snap
   rw[if_neg (by omega),b3,uo,if_pos (by simp)]
   have ht:((ints (cat ps)).drop 0).take ((cat ps).length* 1)=ints (cat ps):=by
    rw[QZ,Nat.mul_one,uM (by simp)]
   rw[ht,wR];rfl
def vy:List Int:=List.replicate 144 8++(List.replicate 112 9++(List.replicate 24 7++List.replicate 8 8))
theorem NK (e:Env) (n:Int):aX e (.cw 1 1 [.int .i64 0] [(0,.c (.int .i64 n))])=some ([I n],fun i=>.aD i 0 1 1):=rfl
theorem za (h:H) (n:Int):Rd (h.alloc [I n]) (.aD h.next 0 1 1) [I n]:=by
 refine⟨?_,by intro s e;cases e⟩
 simp [aR,H.aV]
theorem GW (h:H):aQ AP.A 42 [] h=some (vK vy,h):=by
 have r1:=xC (h.dG.alloc [I 8]) (.aD h.dG.next 0 1 1) 8 144 (by omega) (za _ _)
 have r2:=xC ((h.dG.alloc [I 8]).alloc [I 9]) (.aD (h.dG.alloc [I 8]).next 0 1 1) 9 112 (by omega) (za _ _)
 have r3:=xC (((h.dG.alloc [I 8]).alloc [I 9]).alloc [I 7]) (.aD ((h.dG.alloc [I 8]).alloc [I 9]).next 0 1 1) 7 24 (by omega) (za _ _)
 have r4:=xC ((((h.dG.alloc [I 8]).alloc [I 9]).alloc [I 7]).alloc [I 8]) (.aD (((h.dG.alloc [I 8]).alloc [I 9]).alloc [I 7]).next 0 1 1) 8 8 (by omega) (za _ _)
 obtain⟨g4,hg4⟩:∃g,g=(((h.dG.alloc [I 8]).alloc [I 9]).alloc [I 7]).alloc [I 8]:=⟨_,rfl⟩
 obtain⟨v1,hv1⟩:∃v,v=AV.aU false (ints (List.replicate 144 8)) 0 144 1:=⟨_,rfl⟩
 obtain⟨v2,hv2⟩:∃v,v=AV.aU false (ints (List.replicate 112 9)) 0 112 1:=⟨_,rfl⟩
 obtain⟨v3,hv3⟩:∃v,v=AV.aU false (ints (List.replicate 24 7)) 0 24 1:=⟨_,rfl⟩
 obtain⟨v4,hv4⟩:∃v,v=AV.aU false (ints (List.replicate 8 8)) 0 8 1:=⟨_,rfl⟩
 have hc:cat [(v1,List.replicate 144 8),(v2,List.replicate 112 9),(v3,List.replicate 24 7),(v4,List.replicate 8 8)]=vy:=by
  simp only[cat,vy,QM,List.flatMap_nil,QY]
 have hfl:vy.length=288:=by simp only[vy,uR,QV]
 have cc:=BT (g4.alloc [v1,v2,v3,v4]) (.aD g4.next 0 4 1) [(v1,List.replicate 144 8),(v2,List.replicate 112 9),(v3,List.replicate 24 7),(v4,List.replicate 8 8)]
  ⟨by simp [aR,H.aV],by intro s e;cases e⟩
  (by
    intro p hp
    simp only[uO,List.not_mem_nil,or_false]at hp
    rcases hp with rfl|rfl|rfl|rfl
    · rw[hv1];exact xc _ _
    · rw[hv2];exact xc _ _
    · rw[hv3];exact xc _ _
    · rw[hv4];exact xc _ _) (by rw[hc,hfl];omega) (by simp) (by rw[hc,hfl];omega)
 rw[hc]at cc
 have bt:∀e:Env,look e 2=v1→look e 4=v2→look e 6=v3→look e 8=v4→aX e (.cw 1 4 [.aO] [(0,.t 2),(1,.t 4),(2,.t 6),(3,.t 8)])=some ([v1,v2,v3,v4],fun i=>.aD i 0 4 1):=by
  intro e q1 q2 q3 q4
  simp only[aX,QO,Rj,rJ,q1,q2,q3,q4]
  rw[hv1,hv2,hv3,hv4];rfl
 refine tB (fn:=AP.f42) (h2:=g4.alloc [v1,v2,v3,v4]) (e:=[(0,vK vy)]) rfl rfl rfl ?_ rfl ?_
 · rw[←hv1]at r1;rw[←hv2]at r2;rw[←hv3]at r3;rw[←hv4]at r4
   rw[←hg4]at r4
   have r1':aQ AP.A 43 [.aD h.dG.next 0 1 1,I 144] (h.dG.alloc [I 8])=some (v1,h.dG.alloc [I 8]):=r1
   have r2':aQ AP.A 43 [.aD (h.dG.alloc [I 8]).next 0 1 1,I 112] ((h.dG.alloc [I 8]).alloc [I 9])=some (v2,(h.dG.alloc [I 8]).alloc [I 9]):=r2
   have r3':aQ AP.A 43 [.aD ((h.dG.alloc [I 8]).alloc [I 9]).next 0 1 1,I 24] (((h.dG.alloc [I 8]).alloc [I 9]).alloc [I 7])=some (v3,((h.dG.alloc [I 8]).alloc [I 9]).alloc [I 7]):=r3
   have r4':aQ AP.A 43 [.aD (((h.dG.alloc [I 8]).alloc [I 9]).alloc [I 7]).next 0 1 1,I 8] g4=some (v4,g4):=r4
   clear r1 r2 r3 r4 hv1 hv2 hv3 hv4 hc
   simp only[I]at *
   simp only[AP.f42,go_sem,NK,I,r1',r2',r3',←hg4,r4']
   rw[bt _ rfl rfl rfl rfl]
   simp only[lQ,rW,go_sem,cc]
 · simp only[cZ];unfold snap vK;rfl
def ve:List Int:=[16,17,18,0,8,7,9,6,10,5,11,4,12,3,13,2,14,1,15]
theorem G8 (h:H):aQ AP.A 79 [] h=some (vK ve,h):=by
 have b:aX [] (.cw 1 19 [.int .i64 0] [(0,(.c (.int .i64 16))),(1,(.c (.int .i64 17))),(2,(.c (.int .i64 18))),(3,(.c (.int .i64 0))),(4,(.c (.int .i64 8))),(5,(.c (.int .i64 7))),(6,(.c (.int .i64 9))),(7,(.c (.int .i64 6))),(8,(.c (.int .i64 10))),(9,(.c (.int .i64 5))),(10,(.c (.int .i64 11))),(11,(.c (.int .i64 4))),(12,(.c (.int .i64 12))),(13,(.c (.int .i64 3))),(14,(.c (.int .i64 13))),(15,(.c (.int .i64 2))),(16,(.c (.int .i64 14))),(17,(.c (.int .i64 1))),(18,(.c (.int .i64 15)))])=some (ints ve,fun i=>.aD i 0 19 1):=rfl
 refine tB (fn:=AP.f79) (h2:=h.dG.alloc (ints ve)) (e:=[(0,.aD h.next 0 19 1)]) (vs:=[.aD h.next 0 19 1]) rfl rfl rfl ?_ rfl ?_
 · have hn:h.dG.next=h.next:=rfl
   simp only[AP.f79,go_sem,b,hn]
 · show snap (h.dG.alloc (ints ve)).get h.next 16 true (.aD h.next 0 19 1)=_
   unfold snap
   rw[if_neg (by omega),H.aV,if_pos (show h.next=h.dG.next from rfl),uo,if_pos (by decide)]
   rw[show((ints ve).drop 0).take (19* 1)=ints ve from rfl,wR];rfl
def IV (c:ae) (d:Option Nat) (r:List aj) (e:Env) (p:Option (AV×H)):Option (Env×H×List H):=p.bind fun q=>aM c r (aL d q.1 e) q.2
theorem DZ (c:ae) (d:Option Nat) (r:List aj) (e:Env) (v:AV) (h:H):IV c d r e (some (v,h))=aM c r (aL d v e) h:=ui rfl rfl
def H5 (aN:Bool) (h:H) (p:Option (Env×H×List H)):Option (Env×H×List H):=p.bind fun q=>some (q.1,q.2.1,if aN then h::q.2.2 else q.2.2)
theorem Ei (h:H) (e:Env) (h':H) (gs:List H):H5 true h (some (e,h',gs))=some (e,h',h::gs):=ui rfl rfl
theorem Eh (h:H) (e:Env) (h':H) (gs:List H):H5 false h (some (e,h',gs))=some (e,h',gs):=ui rfl rfl
theorem Ar (c:ae) (e:Env) (h:H):aM c [] e h=some (e,h,[h]):=ui rfl rfl
theorem DB (c:ae) (o:aj) (r:List aj) (e:Env) (h:H):aM c (o::r) e h=H5 o.op.aN h (IV c o.dst r e (ai c o e h)):=by
 rw[aM]
 unfold H5 IV
 cases hv:ai c o e h with
 |none=>rfl
 | some q =>
   obtain⟨v,h'⟩:=q
   simp only[uo]
theorem Eb (c:ae) (d:Option Nat) (op:bR) (r:List aj) (e:Env) (h:H):aM c (⟨d,op,none⟩::r) e h=H5 op.aN h (IV c d r e (ah c e h op)):=DB _ _ _ _ _
theorem I9 (c:ae) (d:Option Nat) (op:bR) (g:Nat) (w:Bool) (r:List aj) (e:Env) (h:H):aM c (⟨d,op,some (g,w)⟩::r) e h=H5 op.aN h (IV c d r e (kE w c e h op (look e g))):=DB _ _ _ _ _
theorem Ij {c:ae} {l:bE} {e e':Env} {h h':H} {gs:List H} (ord:List Nat) (ops:List aj) (fl:List (Nat×List Nat)) (vE:List Nat) (h1:aM c ops e h=some (e',h',gs)) (h2:aY c ops e' gs fl=true):aK c l (.ir ord ops fl vE) e h=some (.normal,ax e' vE,h'):=by
 rw[aK,h1,uo]
 dsimp only
 rw[if_pos h2]
theorem AX {c:ae} {ops:List aj} {e:Env} {gs:List H} {i:Nat} {ks:List Nat} {r:List (Nat×List Nat)} (h1:∀k∈ks,bC c ops e gs i k=true) (h2:aY c ops e gs r=true):aY c ops e gs ((i,ks)::r)=true:=by
 simp only[aY,uw,List.all_eq_true]
 exact⟨h1,h2⟩
theorem AW {c:ae} {ops:List aj} {e:Env} {gs:List H} {i k:Nat} {o:aj} {g h':H} {d:Nat} {u:AV} (ho:ops[i]?=some o) (hg:gs[k]?=some g) (hb:o.op.aH=false) (hd:o.dst=some d) (hv:ai c o e g=some (u,h')) (hu:AV.beq u (look e d)=true):bC c ops e gs i k=true:=by
 unfold bC
 rw[ho,hg]
 dsimp only
 rw[hb]
 simp only[uq,uS,hd,QK,hv]
 exact hu
theorem DT (k:IntKind) (n:Int):AV.beq (.int k n) (.int k n)=true:=by simp [AV.beq]
theorem BG (i o l z:Nat):AV.beq (.aD i o l z) (.aD i o l z)=true:=by simp [AV.beq]
theorem EA (i o:Nat):AV.beq (.aC i o) (.aC i o)=true:=by simp [AV.beq]
theorem Bv (s:ByteArray):AV.beq (.str s) (.str s)=true:=by
 have:(s==s)=true:=by
  obtain⟨d⟩:=s
  show(d==d)=true
  exact beq_self_eq_true d
 simp [AV.beq,this]
theorem mV.apps {h:H} {v:AV} {cs:List AV} (o:mV h v cs) (hfn:h.floor≤h.next) {z:Nat} (bs:List AV) (hc:AV.aB bs=true) (hb:0<bs.length) (hr:roomy z (cs.length+bs.length)=true):
 ∃v' h',dC h 1 z v bs.length bs=some (v',h')∧mV h' v' (cs++bs)∧h'.floor=h.floor∧h.next≤h'.next∧(∀i,v.id?≠some i→i≠h.next→h'.get i=h.get i)∧v'.id?=some h.next:=by
 have hne:bs≠[]:=by intro e;rw[e]at hb;simp at hb
 rcases o with ⟨rfl,rfl⟩|⟨id,rfl,hg,hf,hne'⟩
 · refine⟨.aD h.next 0 bs.length 1,h.alloc bs, ?_,.inr ⟨h.next,by simp,by simp [H.aV], ?_,by simpa using hne⟩,by simp,by simp,fun i _ hi=>by rw[H.aV,if_neg hi],rfl⟩
   · unfold dC
     rw[if_neg (by omega),if_neg (by simp [hc])]
     simp only[QI,uC]at hr
     simp only[hr,if_true]
   · simp;omega
 · refine⟨.aD h.next 0 (cs.length+bs.length) 1,(h.del id).alloc (cs++bs), ?_,.inr ⟨h.next,by simp,by simp [H.aV], ?_,by simp [hne]⟩,by simp,by simp,fun i h1 h2=> ?_,rfl⟩
   · unfold dC
     rw[if_neg (by omega),if_neg (by simp [hc])]
     simp only[hf,and_self,if_true,hg,uo]
     rw[if_neg (by omega),if_pos ⟨by omega,hr⟩]
     simp
   · have:=h.lt id cs hg;simp;omega
   · rw[H.aV,H.jc,if_neg h2,H.dJ,if_neg]
     intro e;subst e;exact h1 rfl
theorem St.vE {c:SC} {S:SS} {h h':H} {ov:AV} (st:St c S h ov) (hf:h'.floor=h.floor) (hn:h.next≤h'.next) (hg:∀i,i=c.s∨i=c.r∨ov.id?=some i→h'.get i=h.get i):St c S h' ov:=by
 refine⟨by rw[hg _ (.inl rfl)];exact st.gs,by rw[hg _ (.inr (.inl rfl))];exact st.gr,st.own.mono hf fun i hi=>hg i (.inr (.inr hi)),st.sr,by rw[hf];exact st.fs,by rw[hf];exact st.fr,st.os,st.or,by rw[hf];exact uP st.nx hn,st.sz,st.xS,st.ol,st.ml⟩
theorem St.lt {c:SC} {S:SS} {h:H} {ov:AV} (st:St c S h ov) {i:Nat} (hi:i=c.s∨i=c.r∨ov.id?=some i):i<h.next:=by
 rcases hi with rfl|rfl|hi
 · exact h.lt _ _ st.gs
 · exact h.lt _ _ st.gr
 · exact st.own.lt hi
theorem St.alloc {c:SC} {S:SS} {h:H} {ov:AV} (st:St c S h ov) (cs:List AV):St c S (h.alloc cs) ov∧Fr c h ov (h.alloc cs) ov:=by
 refine⟨st.vE (by simp) (by simp) fun i hi=> ?_,⟨by simp,by simp,fun id h1 _ _ _=> ?_,fun _ q=>.inl q⟩⟩
 · have:=st.lt hi;rw[H.aV,if_neg (by omega)]
 · rw[H.aV,if_neg (by omega)]
def vN (c:SC) (y:Int) (acc:List Int) (S:SS):(Int×Nat)×SS:=
 if y=16 then(if acc=[]then((0,0),vr 700 S)else((acc.getD (acc.length-1) 0,3+(uY c 2 S).1),(uY c 2 S).2))
 else if y=17 then((0,3+(uY c 3 S).1),(uY c 3 S).2)
 else if y=18 then((0,11+(uY c 7 S).1),(uY c 7 S).2)
 else((y,1),S)
theorem yZ (c:SC) (S:SS) (n:Nat) (hn:n≤16):(uY c n S).1<65536:=by
 unfold uY;split
 · have:=wx c.text S.at_ n
   have:=QX (show 0<2 by omega) hn
   simp at *;omega
 · simp
theorem Dj {l:List Int} {i:Nat} (h:i<l.length):(ints l)[i]?=some (I (l.getD i 0)):=sf (by simp [List.getD,h])
theorem JR {c : SC} {S : SS} {h : H} {ov : AV} (st : St c S h ov) (y : Int) {av : AV} {acc : List Int} (oa : mV h av (ints acc)) (ha : acc.length < 100000) (hne : ∀ i, av.id? = some i → i ≠ c.s ∧ i ≠ c.r ∧ ov.id? ≠ some i) :
 ∃h',aQ AP.A 80 [.aC c.s 0,I y,av] h=some (.bJ [I (vN c y acc S).1.1,I (vN c y acc S).1.2],h')∧St c (vN c y acc S).2 h' ov∧Fr c h ov h' ov:=by
 have ln:=oa.len
 rw[pf]at ln
 by_cases h16:y=16
 · have d16:=tI h16
   by_cases hnil:acc=[]
   · obtain⟨h',k1,k2,k3⟩:=wE st 700
     have e:vN c y acc S=((0,0),vr 700 S):=by rw[vN,if_pos h16,if_pos hnil]
     rw[e]
     refine⟨h', ?_,k2,k3⟩
     have hz:((acc.length:Int)==0)=true:=by rw[hnil];rfl
     refine sY (fn:=AP.f80) (e:=[(6,I 0),(7,I 0)]) rfl rfl rfl ?_ rfl
     simp only[I]at *
     simp only[AP.f80,go_sem,d16,ln,hz,k1]
   · obtain⟨h',k1,k2,k3⟩:=xW st 2 2 rfl (by omega)
     have e:vN c y acc S=((acc.getD (acc.length-1) 0,3+(uY c 2 S).1),(uY c 2 S).2):=by rw[vN,if_pos h16,if_neg hnil]
     rw[e]
     have hpos:0<acc.length:=List.length_pos_iff.2 hnil
     have hz:((acc.length:Int)==0)=false:=tH (by omega)
     have hg:=yZ c S 2 (by omega)
     have w1:IntKind.wrap .i64 (3+((uY c 2 S).1:Int))=((3+(uY c 2 S).1:Nat):Int):=by
      rw[show(3:Int)+((uY c 2 S).1:Int)=((3+(uY c 2 S).1:Nat):Int)by omega];exact uX (by omega)
     have w2:IntKind.wrap .i64 ((acc.length:Int)-1)=((acc.length-1:Nat):Int):=by
      rw[show(acc.length:Int)-1=((acc.length-1:Nat):Int)by omega];exact uX (by omega)
     have hel:=Dj (l:=acc) (i:=acc.length-1) (by omega)
     obtain⟨id,i1,i2,i3⟩:=oa.elem hel
     have hid:=hne id (by rw[i1];rfl)
     have i4:h'.get id=some (ints acc):=by rw[k3.FX id (h.lt _ _ i3) hid.1 hid.2.1 hid.2.2];exact i3
     refine⟨h', ?_,k2,k3⟩
     refine sY (fn:=AP.f80) (e:=[(6,I (acc.getD (acc.length-1) 0)),(7,I (3+(uY c 2 S).1:Nat))]) rfl rfl rfl ?_ rfl
     generalize (uY c 2 S).1=G at *
     clear i1
     simp only[I]at *
     simp only[AP.f80,go_sem,d16,ln,hz]
     rw[Ij (e':=[(7,.int .i64 ((3+G:Nat):Int)),(6,.int .i64 (acc.getD (acc.length-1) 0)),(24,.int .i64 ((3+G:Nat):Int)),(23,.int .i64 G),(22,.aC c.s 0),(21,.int .i64 (acc.getD (acc.length-1) 0)),(20,.aC id (acc.length-1)),(19,.int .i64 (acc.length-1:Nat)),(18,.int .i64 acc.length),(17,av),(16,av),(0,.aC c.s 0),(2,av)]) (h':=h') (gs:=[h,h'])]
     · simp only[go_sem]
     · simp only[Ar,Eb,DZ,Ei,Eh,bR.aN,go_sem,ln,w2,i2,i3,hel,k1,w1]
     · refine AX (fun k hk=> ?_) rfl
       obtain rfl:k=1:=by simpa using hk
       refine AW (o:=⟨some 21,.load false 1 (.t 20),none⟩) (g:=h') (h':=h') (d:=21) (u:=.int .i64 (acc.getD (acc.length-1) 0)) rfl rfl rfl rfl ?_ ?_
       · simp only[ai,go_sem,i4,hel]
       · simp only[go_sem,DT]
 · have d16:=tH h16
   by_cases h17:y=17
   · have d17:=tI h17
     obtain⟨h',k1,k2,k3⟩:=xW st 3 3 rfl (by omega)
     have e:vN c y acc S=((0,3+(uY c 3 S).1),(uY c 3 S).2):=by rw[vN,if_neg h16,if_pos h17]
     rw[e]
     have hg:=yZ c S 3 (by omega)
     have w1:IntKind.wrap .i64 (3+((uY c 3 S).1:Int))=((3+(uY c 3 S).1:Nat):Int):=by
      rw[show(3:Int)+((uY c 3 S).1:Int)=((3+(uY c 3 S).1:Nat):Int)by omega];exact uX (by omega)
     refine⟨h', ?_,k2,k3⟩
     refine sY (fn:=AP.f80) (e:=[(6,I 0),(7,I (3+(uY c 3 S).1:Nat))]) rfl rfl rfl ?_ rfl
     simp only[I]at *
     simp only[AP.f80,go_sem,d16,d17,k1,w1]
   · have d17:=tH h17
     by_cases h18:y=18
     · have d18:=tI h18
       obtain⟨h',k1,k2,k3⟩:=xW st 7 7 rfl (by omega)
       have e:vN c y acc S=((0,11+(uY c 7 S).1),(uY c 7 S).2):=by rw[vN,if_neg h16,if_neg h17,if_pos h18]
       rw[e]
       have hg:=yZ c S 7 (by omega)
       have w1:IntKind.wrap .i64 (11+((uY c 7 S).1:Int))=((11+(uY c 7 S).1:Nat):Int):=by
        rw[show(11:Int)+((uY c 7 S).1:Int)=((11+(uY c 7 S).1:Nat):Int)by omega];exact uX (by omega)
       refine⟨h', ?_,k2,k3⟩
       refine sY (fn:=AP.f80) (e:=[(6,I 0),(7,I (11+(uY c 7 S).1:Nat))]) rfl rfl rfl ?_ rfl
       simp only[I]at *
       simp only[AP.f80,go_sem,d16,d17,d18,k1,w1]
     · have d18:=tH h18
       have e:vN c y acc S=((y,1),S):=by rw[vN,if_neg h16,if_neg h17,if_neg h18]
       rw[e]
       refine⟨h, ?_,st,Fr.refl _ _ _⟩
       refine sY (fn:=AP.f80) (e:=[(6,I y),(7,I 1)]) rfl rfl rfl ?_ rfl
       simp only[I]at *
       simp only[AP.f80,go_sem,d16,d17,d18]
def Ed (t:ByteArray):List Int→Nat→List Int→List Int
 |[],_,o=>o
 |s::r,p,o=>Ed t r (p+3) (o.set s.toNat (u2 t p 3))
def yi (t:ByteArray) (y:Int) (acc:List Int) (p:Nat):Option (Int×Nat×Nat):=
 if y=16 then(if acc=[]then none else if p+2≤8* t.size then some (acc.getD (acc.length-1) 0,3+u2 t p 2,p+2)else none)
 else if y=17 then(if p+3≤8* t.size then some (0,3+u2 t p 3,p+3)else none)
 else if y=18 then(if p+7≤8* t.size then some (0,11+u2 t p 7,p+7)else none)
 else some (y,1,p)
def vR (t : ByteArray) (cl : List Int) (many : Nat) : Nat → List Int → Nat → Option (List Int × Nat)
 |0,_,_=>none
 | f + 1, acc, p => if acc.length < many then
     match yd t cl 15 1 0 p with
     |none=>none
     | some (y, p1) => match yi t y acc p1 with
       |none=>none
       |some (n,times,p2)=>vR t cl many f (acc++List.replicate times n) p2
   else if many<acc.length then none else some (acc,p)
def xK (t : ByteArray) (many : Nat) (p : Nat) : Option (List Int × Nat) :=
 if p+4≤8* t.size then
  let k:=u2 t p 4+4
  if p+4+3* k≤8* t.size then
   let cl:=Ed t (ve.take k) (p+4) (List.replicate 19 0)
   if vh cl=0 then vR t cl many (8* t.size+1) [] (p+4+3* k)else none
  else none
 else none
theorem F5 {h:H} {t:Bool} {N k:Nat} {cs:List AV} (hN:cs.length=N) (hk:k≤N):rz h 1 (.aU t cs 0 N 1) none (some (I k)) none=some (.aU t cs 0 k 1):=by
 simp [rz,hN,aA,Jo hk]
theorem Dv:∀s∈ve,0≤s∧s<19:=by decide
def yP (c:SC):List Int→List Int→SS→List Int×SS
 |[],o,S=>(o,S)
 |s::r,o,S=>yP c r (o.set s.toNat ((uY c 3 S).1:Nat)) (uY c 3 S).2
theorem Fs (c:SC):∀(r o:List Int) (S:SS),(yP c r o S).1.length=o.length
 |[],o,S=>rfl
 |s::r,o,S=>by rw[yP,Fs c r];simp
theorem G9 (c : SC) : ∀ (r o : List Int) (S : SS), (∀ y ∈ o, 0 ≤ y ∧ y < 16) → ∀ y ∈ (yP c r o S).1, 0 ≤ y ∧ y < 16
 |[],o,S,h=>h
 | s :: r, o, S, h => by
   rw[yP]
   refine G9 c r _ _ fun y hy=> ?_
   rcases Ra hy with q|q
   · exact h y q
   · subst q
     have:(uY c 3 S).1<8:=by
      unfold uY;split
      · simpa using wx c.text S.at_ 3
      · simp
     omega
theorem Ha (c:SC):∀(r o:List Int) (S:SS),S.e=0→S.at_+3* r.length≤8* c.text.size→yP c r o S=(Ed c.text r S.at_ o,{S with at_:=S.at_+3* r.length})
 |[],o,S,he,h=>rfl
 | s :: r, o, S, he, h => by
   rw[QG]at h
   have eg:uY c 3 S=(u2 c.text S.at_ 3,{S with at_:=S.at_+3}):=by rw[uY,if_pos (by omega)]
   rw[yP,eg]
   dsimp only
   rw[Ha c r _ {S with at_:=S.at_+3} he (by dsimp only;omega)]
   simp only[Ed,QG]
   rw[show S.at_+3+3* r.length=S.at_+3* (r.length+1)by omega]
theorem IM (c:SC) (n:Nat) (S:SS) (h:S.e=0∨S.e=700):(uY c n S).2.e=0∨(uY c n S).2.e=700:=by
 unfold uY;split
 · exact h
 · rcases h with h|h<;>simp [vr,h]
theorem J6 (c:SC) (n:Nat) (S:SS) (h:S.e=700):(uY c n S).2.e=700:=by
 unfold uY;split
 · exact h
 · simp [vr,h]
theorem Ee (c:SC):∀(r o:List Int) (S:SS),S.e=700→(yP c r o S).2.e=700
 |[],o,S,h=>h
 |s::r,o,S,h=>by rw[yP];exact Ee c r _ _ (J6 c 3 S h)
theorem Fq (c:SC):∀(r o:List Int) (S:SS),S.e=0→S.at_≤8* c.text.size→8* c.text.size<S.at_+3* r.length→(yP c r o S).2.e=700
 |[],o,S,he,hle,h=>by simp at h;omega
 | s :: r, o, S, he, hle, h => by
   rw[yP]
   rw[QG]at h
   by_cases hp:S.at_+3≤8* c.text.size
   · have eg:uY c 3 S=(u2 c.text S.at_ 3,{S with at_:=S.at_+3}):=by rw[uY,if_pos hp]
     rw[eg]
     exact Fq c r _ _ he hp (by dsimp only;omega)
   · have eg:uY c 3 S=(0,{S with e:=700}):=by rw[uY,if_neg hp,vr,if_pos he]
     rw[eg]
     exact Ee c r _ _ rfl
theorem Fu {c:SC} (a:Nat) (x:AV) (xs:List Int) (hxs:∀s∈xs,0≤s∧s<19) (hxl:xs.length≤19) (hac:a≠c.s∧a≠c.r) (m:AV):∀(q p o:List Int) (S:SS) (h:H) (ov:AV),xs=p++q→Rd h x (ints xs)→(∀i,x.id?≠some i)→St c S h ov→ov.id?≠some a→h.get a=some (ints o)→o.length=19→h.floor≤a→
 ∃ e' h', Lp AP.A [0, 1, 5, 18, 19, 20] AP.f64L1 [(0, .aC c.s 0), (1, m), (5, .aC a 0), (18, x), (19, I xs.length), (20, I p.length)] h = some (.exit 0, e', h') ∧ look e' 0 = .aC c.s 0 ∧ look e' 1 = m ∧ look e' 5 = .aC a 0 ∧
   St c (yP c q o S).2 h' ov∧h'.get a=some (ints (yP c q o S).1)∧h'.floor=h.floor∧h.next≤h'.next∧∀i,i<h.next→i≠c.s→i≠c.r→ov.id?≠some i→i≠a→h'.get i=h.get i
 | [], p, o, S, h, ov, hp, rd, hx, st, hoa, hg, ho, hf => by
   rw[QY]at hp;subst hp
   refine⟨[(0,.aC c.s 0),(1,m),(5,.aC a 0),(18,x),(19,I xs.length),(20,I xs.length),(21,.bool false)],h,sJ ?_,rfl,rfl,rfl,st,hg,rfl,uv _,fun _ _ _ _ _ _=>rfl⟩
   have c1:¬(xs.length:Int)<(xs.length:Int):=by omega
   simp only[I]at *
   simp only[AP.f64L1,go_sem,QJ c1]
 | s :: q, p, o, S, h, ov, hp, rd, hx, st, hoa, hg, ho, hf => by
   have hlen:xs.length=p.length+(q.length+1):=by rw[hp];simp
   have c1:(p.length:Int)<(xs.length:Int):=by omega
   have hs:=hxs s (by rw[hp];simp)
   obtain⟨sn,hsn⟩:∃n:Nat,s=n:=QN hs.1
   subst hsn
   have hv:(ints xs)[p.length]?=some (I sn):=sf (by rw[hp];simp)
   obtain⟨ad,p1,p2⟩:=rd.elem hv
   have p3:=p2 h (fun _ _ q=>q)
   obtain⟨h1,k1,k2,k3⟩:=xW st 3 3 rfl (by omega)
   have hal:a<h.next:=h.lt _ _ hg
   have hg1:h1.get a=some (ints o):=by rw[k3.FX a hal hac.1 hac.2 hoa];exact hg
   have a1:cG (I sn) 19=some sn:=jV (by omega)
   have hset:(ints o).set sn (I ((uY c 3 S).1:Nat))=ints (o.set sn ((uY c 3 S).1:Nat)):=by simp [ints,List.map_set]
   have hst:tD h1 a sn 1 [I ((uY c 3 S).1:Nat)] (some (ints o))=some (h1.set a (ints (o.set sn ((uY c 3 S).1:Nat)))):=by
    rw[tU (by rw[k3.fl];exact hf) (by rw[pf];omega) rfl,hset]
   have w2:IntKind.wrap .i64 ((p.length:Int)+1)=(((p++[(sn:Int)]).length:Nat):Int):=by
    rw[uR];exact uX (n:=p.length+1) (by omega)
   have step:aK (aQ AP.A) bo AP.f64L1 (ax [(0,.aC c.s 0),(1,m),(5,.aC a 0),(18,x),(19,I xs.length),(20,I p.length)] [0,1,5,18,19,20]) h=some (.normal,[(0,.aC c.s 0),(1,m),(5,.aC a 0),(18,x),(19,I xs.length),(20,I (p++[(sn:Int)]).length)],h1.set a (ints (o.set sn ((uY c 3 S).1:Nat)))):=by
    generalize ints (o.set sn ((uY c 3 S).1:Nat))=W at *
    generalize (p++[(sn:Int)]).length=B at *
    generalize (uY c 3 S).1=G at *
    generalize ints o=OO at *
    simp only[I]at *
    simp only[AP.f64L1,go_sem,QL c1,p1,p3,k1,a1,hg1,hst,w2]
   have st2:St c (uY c 3 S).2 (h1.set a (ints (o.set sn ((uY c 3 S).1:Nat)))) ov:=k2.vE (by simp) (by simp) fun i hi=>by
    rw[H.dd,if_neg]
    rintro rfl
    rcases hi with hi|hi|hi
    · exact hac.1 hi
    · exact hac.2 hi
    · exact hoa hi
   have rd2:Rd (h1.set a (ints (o.set sn ((uY c 3 S).1:Nat)))) x (ints xs):=by
    refine⟨?_,rd.2⟩
    have:=rd.1
    unfold aR at this ⊢
    split at this
    · exact this
    · exact this
    · exact absurd rfl (hx _)
    · exact this
    · cases this
   obtain⟨e',h',q1,q2,q3,q4,q5,q6,q7,q8,q9⟩:=Fu a x xs hxs hxl hac m q (p++[(sn:Int)]) (o.set sn ((uY c 3 S).1:Nat)) _ _ ov (by rw[hp];simp) rd2 hx st2 hoa (by rw[H.dd,if_pos rfl,hg1];rfl) (by simpa using ho) (by simp [k3.fl];exact hf)
   refine⟨e',h',sK step q1,q2,q3,q4, ?_, ?_,by rw[q7];simp [k3.fl],by have:=k3.nx;simp at q8;omega,fun i i1 i2 i3 i4 i5=> ?_⟩
   · rw[yP];exact q5
   · rw[yP];exact q6
   · rw[q9 i (by have:=k3.nx;simp;omega) i2 i3 i4 i5,H.dd,if_neg i5,k3.FX i i1 i2 i3 i4]
theorem xn {c:SC} {S:SS} {h:H} {ov:AV} (st:St c S h ov) (b:AV) (many:Nat) {av:AV} {acc:List Int} (oa:mV h av (ints acc)) (hs:many≤acc.length∨(acc.length<many∧S.e≠0)):
 ∃e',Lp AP.A [0,1,9,10] AP.f64L0 [(0,.aC c.s 0),(1,I many),(9,b),(10,av)] h=some (.exit 2,e',h)∧look e' 0=.aC c.s 0∧look e' 1=I many∧look e' 10=av:=by
 have gs:=st.gs
 have ln:=oa.len
 rw[pf]at ln
 refine⟨[(0,.aC c.s 0),(1,I many),(9,b),(10,av),(46,.bool false)],sJ ?_,rfl,rfl,rfl⟩
 rcases hs with hs|⟨hs,he⟩
 · have c1:¬(acc.length:Int)<many:=by omega
   simp only[I]at *
   simp only[AP.f64L0,go_sem,ln,QJ c1]
 · have c1:(acc.length:Int)<many:=by omega
   have c2:=tH he
   simp only[I]at *
   simp only[AP.f64L0,go_sem,ln,QL c1,gs,c2]
theorem Hv {c : SC} {S : SS} {y : Int} {acc : List Int} (he : S.e = 0) :
 match yi c.text y acc S.at_ with
 |some (n,times,p)=>vN c y acc S=((n,times),{S with at_:=p})∧S.at_≤p
 |none=>(vN c y acc S).2.e=700:=by
 unfold yi vN
 by_cases h16:y=16
 · rw[if_pos h16,if_pos h16]
   by_cases hn:acc=[]
   · rw[if_pos hn,if_pos hn];simp [vr,he]
   · rw[if_neg hn,if_neg hn]
     by_cases hp:S.at_+2≤8* c.text.size
     · simp [uY,hp]
     · simp [uY,hp,vr,he]
 · rw [if_neg h16, if_neg h16]
   by_cases h17:y=17
   · rw[if_pos h17,if_pos h17]
     by_cases hp:S.at_+3≤8* c.text.size
     · simp [uY,hp]
     · simp [uY,hp,vr,he]
   · rw[if_neg h17,if_neg h17]
     by_cases h18:y=18
     · rw[if_pos h18,if_pos h18]
       by_cases hp:S.at_+7≤8* c.text.size
       · simp [uY,hp]
       · simp [uY,hp,vr,he]
     · rw[if_neg h18,if_neg h18]
       exact⟨rfl,uv _⟩
theorem DO (c:SC) (y:Int) (acc:List Int) (S:SS):(vN c y acc S).1.2<70000:=by
 unfold vN
 have h2:=yZ c S 2 (by omega)
 have h3:=yZ c S 3 (by omega)
 have h7:=yZ c S 7 (by omega)
 repeat' split
 all_goals (dsimp only;omega)
theorem Dq {c : SC} (h0 : H) (cl : List Int) (hcl : cl.length < 100000) (many : Nat) (hm : many ≤ 400) : ∀ (f : Nat) (acc : List Int) (S : SS) (h : H) (ov av : AV), St c S h ov → S.e = 0 → 8 * c.text.size < S.at_ + f → Fr c h0 ov h ov → mV h av (ints acc) → acc.length < 80000 → (∀ i, av.id? = some i → h0.next ≤ i) → (∀ i, (i = c.s ∨ i = c.r ∨ ov.id? = some i) → i < h0.next) →
 ∃ e' h' S' av' acc', Lp AP.A [0, 1, 9, 10] AP.f64L0 [(0, .aC c.s 0), (1, I many), (9, vn cl), (10, av)] h = some (.exit 2, e', h') ∧ look e' 0 = .aC c.s 0 ∧ look e' 1 = I many ∧ look e' 10 = av' ∧ St c S' h' ov ∧ Fr c h0 ov h' ov ∧ mV h' av' (ints acc') ∧ acc'.length < 200000 ∧ (∀ i, av'.id? = some i → h0.next ≤ i) ∧
   match vR c.text cl many f acc S.at_ with
   |some (L,p)=>S'={S with at_:=p}∧acc'=L∧L.length=many
   |none=>S'.e=700∨(S'.e=0∧many<acc'.length)
 |0,acc,S,h,ov,av,st,he,hk,fr,oa,hal,hid,hlo=>by have:=st.xS;omega
 | f + 1, acc, S, h, ov, av, st, he, hk, fr, oa, hal, hid, hlo => by
   by_cases hlt:acc.length<many
   · rw [vR, if_pos hlt]
     have gs:=st.gs
     have ln:=oa.len
     rw[pf]at ln
     have c1:(acc.length:Int)<many:=by omega
     obtain⟨h1,S1,y,s1,s2,s3,s4⟩:=CI cl hcl st he
     have hneq:∀i,av.id?=some i→i≠c.s∧i≠c.r∧ov.id?≠some i:=fun i hi=>by
      have:=hid i hi
      refine⟨fun e=> ?_,fun e=> ?_,fun e=> ?_⟩
      · have:=hlo i (.inl e);omega
      · have:=hlo i (.inr (.inl e));omega
      · have:=hlo i (.inr (.inr e));omega
     have oa1:mV h1 av (ints acc):=oa.mono s3.fl fun i hi=>s3.FX i (oa.lt hi) (hneq i hi).1 (hneq i hi).2.1 (hneq i hi).2.2
     obtain⟨h2,r1,r2,r3⟩:=JR s2 y oa1 (by omega) hneq
     have oa2:mV h2 av (ints acc):=oa1.mono r3.fl fun i hi=>r3.FX i (oa1.lt hi) (hneq i hi).1 (hneq i hi).2.1 (hneq i hi).2.2
     obtain⟨n,hn⟩:∃n,n=(vN c y acc S1).1.1:=⟨_,rfl⟩
     obtain⟨times,htm⟩:∃n,n=(vN c y acc S1).1.2:=⟨_,rfl⟩
     obtain⟨S2,hS2⟩:∃n,n=(vN c y acc S1).2:=⟨_,rfl⟩
     have htb:=DO c y acc S1
     rw[←hn,←htm]at r1;rw[←hS2]at r2;rw[←htm]at htb
     have al:=r2.alloc [I n]
     have rp:=xC (h2.alloc [I n]) (.aD h2.next 0 1 1) n times (by omega) (za _ _)
     have oa3:mV (h2.alloc [I n]) av (ints acc):=oa2.mono (by simp) fun i hi=>by
      have:=oa2.lt hi;rw[H.aV,if_neg (by omega)]
     have hfr3:=((fr.trans s3).trans r3).trans al.2
     have hap:∃v' h3,j9 (h2.alloc [I n]) 1 8 av (.aU false (ints (List.replicate times n)) 0 times 1)=some (v',h3)∧mV h3 v' (ints (acc++List.replicate times n))∧St c S2 h3 ov∧Fr c h0 ov h3 ov∧∀i,v'.id?=some i→h0.next≤i:=by
      have src:aR (h2.alloc [I n]) 1 (.aU false (ints (List.replicate times n)) 0 times 1)=some (times,ints (List.replicate times n)):=by
       simp [aR,uM]
      by_cases ht0:times=0
      · subst ht0
        refine⟨av,h2.alloc [I n], ?_,by simpa using oa3,al.1,hfr3,hid⟩
        unfold j9
        rw[src,uo]
        unfold dC
        rw[if_pos rfl]
        rcases oa3 with ⟨rfl,_⟩|⟨id,rfl,_⟩<;>rfl
      · have hnx:=al.1.nx
        obtain⟨v',h3,q1,q2,q3,q4,q5,q6⟩:=oa3.apps hnx (z:=8) (ints (List.replicate times n)) (js _) (by simp;omega) (by simp [roomy];omega)
        refine⟨v',h3, ?_,by rw[pd];exact q2,al.1.vE q3 q4 fun i hi=> ?_,⟨q3.trans hfr3.fl,uP hfr3.nx q4,fun id i1 i2 i3 i4=> ?_,fun i hi=>.inl hi⟩,fun i hi=> ?_⟩
        · unfold j9
          rw[src,uo]
          have hl:(ints (List.replicate times n)).length=times:=by simp
          rw[hl]at q1;exact q1
        · have hlt0:=hlo i hi
          have hle:h0.next≤(h2.alloc [I n]).next:=hfr3.nx
          exact q5 i (fun e=>by have:=hid i e;omega) (by omega)
        · have hle:h0.next≤(h2.alloc [I n]).next:=hfr3.nx
          rw[q5 id (fun e=>by have:=hid id e;omega) (by omega)]
          exact hfr3.FX id i1 i2 i3 i4
        · rw[q6]at hi;cases hi;exact hfr3.nx
     obtain⟨v',h3,ap1,ap2,ap3,ap4,ap5⟩:=hap
     have step:aK (aQ AP.A) bo AP.f64L0 (ax [(0,.aC c.s 0),(1,I many),(9,vn cl),(10,av)] [0,1,9,10]) h=some (.normal,[(0,.aC c.s 0),(1,I many),(9,vn cl),(10,v')],h3):=by
      have bs:∀(e:Env),look e 57=.int .i64 n→aX e (.cw 1 1 [.int .i64 0] [(0,.t 57)])=some ([.int .i64 n],fun i=>.aD i 0 1 1):=by
       intro e q
       simp only[aX,QO,Rj,rJ,q];rfl
      simp only[I]at *
      simp only[AP.f64L0,go_sem,ln,QL c1,gs,he,s1,r1]
      rw[bs _ rfl]
      simp only[go_sem,rp,ap1]
     have hacc':(acc++List.replicate times n).length<80000:=by simp;omega
     cases hz:yd c.text cl 15 1 0 S.at_ with
     | none =>
       rw[hz]at s4
       obtain⟨s4,s5⟩:=s4
       have hy:y=256:=s5
       have hag:vN c y acc S1=((y,1),S1):=by rw[vN,if_neg (by omega),if_neg (by omega),if_neg (by omega)]
       have hS2e:S2.e=700:=by rw[hS2,hag];exact s4
       dsimp only
       by_cases hlt2:(acc++List.replicate times n).length<many
       · obtain⟨e',q1,q2,q3,q4⟩:=xn ap3 (vn cl) many ap2 (.inr ⟨hlt2,by rw[hS2e];decide⟩)
         exact⟨e',h3,S2,v',_,sK step q1,q2,q3,q4,ap3,ap4,ap2,by omega,ap5,.inl hS2e⟩
       · obtain⟨e',q1,q2,q3,q4⟩:=xn ap3 (vn cl) many ap2 (.inl (by omega))
         exact⟨e',h3,S2,v',_,sK step q1,q2,q3,q4,ap3,ap4,ap2,by omega,ap5,.inl hS2e⟩
     | some yp =>
       obtain⟨z,p1⟩:=yp
       rw[hz]at s4
       obtain⟨s4,s5⟩:=s4
       subst s5 s4
       have zb:=xN hz
       have hok:=Hv (c:=c) (S:={S with at_:=p1}) (y:=y) (acc:=acc) he
       dsimp only at hok ⊢
       cases ha:yi c.text y acc p1 with
       | none =>
         rw[ha]at hok
         have hS2e:S2.e=700:=by rw[hS2];exact hok
         dsimp only
         by_cases hlt2:(acc++List.replicate times n).length<many
         · obtain⟨e',q1,q2,q3,q4⟩:=xn ap3 (vn cl) many ap2 (.inr ⟨hlt2,by rw[hS2e];decide⟩)
           exact⟨e',h3,S2,v',_,sK step q1,q2,q3,q4,ap3,ap4,ap2,by omega,ap5,.inl hS2e⟩
         · obtain⟨e',q1,q2,q3,q4⟩:=xn ap3 (vn cl) many ap2 (.inl (by omega))
           exact⟨e',h3,S2,v',_,sK step q1,q2,q3,q4,ap3,ap4,ap2,by omega,ap5,.inl hS2e⟩
       | some q =>
         obtain⟨n2,t2,p2⟩:=q
         rw[ha]at hok
         obtain⟨hok,hp12⟩:=hok
         rw[hok]at hn htm hS2
         dsimp only at hn htm hS2
         subst hn htm hS2
         obtain⟨e',h',S',av',acc',q1,q2,q3,q4,q5,q6,q7,q8,q9,q10⟩:=Dq h0 cl hcl many hm f (acc++List.replicate times n) _ h3 ov v' ap3 he (by dsimp only;omega) ap4 ap2 hacc' ap5 hlo
         exact⟨e',h',S',av',acc',sK step q1,q2,q3,q4,q5,q6,q7,q8,q9,q10⟩
   · obtain⟨e',q1,q2,q3,q4⟩:=xn st (vn cl) many oa (.inl (by omega))
     refine⟨e',h,S,av,acc,q1,q2,q3,q4,st,fr,oa,by omega,hid, ?_⟩
     rw[vR,if_neg hlt]
     by_cases hgt:many<acc.length
     · rw[if_pos hgt];exact .inr ⟨he,hgt⟩
     · rw[if_neg hgt];exact⟨rfl,rfl,by omega⟩
theorem HS {c : SC} {S : SS} {h : H} {ov : AV} (st : St c S h ov) (he : S.e = 0) (many : Nat) (hm0 : 0 < many) (hm : many ≤ 400) :
 ∃ h' S' av acc, aQ AP.A 64 [.aC c.s 0, I many] h = some (av, h') ∧ St c S' h' ov ∧ Fr c h ov h' ov ∧ mV h' av (ints acc) ∧ (∀ i, av.id? = some i → h.next ≤ i) ∧ match xK c.text many S.at_ with
   |some (L,p)=>S'={S with at_:=p}∧acc=L∧L.length=many
   |none=>S'.e=700:=by
 have gs:=st.gs
 obtain⟨a,ha⟩:∃a,a=h.next:=⟨_,rfl⟩
 obtain⟨g0,hg0⟩:∃g,g=h.alloc (ints (List.replicate 19 0)):=⟨_,rfl⟩
 have al:=st.alloc (ints (List.replicate 19 0))
 rw[←hg0]at al
 have hga:g0.get a=some (ints (List.replicate 19 0)):=by rw[hg0,H.aV,if_pos ha]
 have oc:=G8 g0
 obtain⟨h1,k1,k2,k3⟩:=xW al.1 4 4 rfl (by omega)
 obtain⟨G,hG⟩:∃G,G=(uY c 4 S).1:=⟨_,rfl⟩
 obtain⟨S1,hS1⟩:∃G,G=(uY c 4 S).2:=⟨_,rfl⟩
 rw[←hG]at k1;rw[←hS1]at k2
 have hG16:G<16:=by
  rw[hG];unfold uY;split
  · simpa using wx c.text S.at_ 4
  · simp
 have w1:IntKind.wrap .i64 ((G:Int)+4)=((G+4:Nat):Int):=uX (n:=G+4) (by omega)
 obtain⟨x,hx⟩:∃x,x=AV.aU false (ints ve) 0 (G+4) 1:=⟨_,rfl⟩
 have sl:rz h1 1 (vK ve) none (some (I (G+4:Nat))) none=some x:=by
  rw[hx];exact F5 (by rw[pf]) (by show G+4≤19;omega)
 have xl:iG false x=some (I (G+4:Nat)):=by rw[hx];rfl
 obtain⟨xs,hxs⟩:∃xs,xs=ve.take (G+4):=⟨_,rfl⟩
 have hol:ve.length=19:=rfl
 have hxsl:xs.length=G+4:=by rw[hxs,Q6,hol];omega
 have rdx:Rd h1 x (ints xs):=by
  refine⟨?_,by rw[hx];intro s e;cases e⟩
  have ht:(ints ve).take (G+4)=ints xs:=by rw[hxs];simp [ints,List.map_take]
  simp only[aR,hx,if_true]
  rw[if_pos (by rw[pf,hol];omega),QZ,Nat.mul_one,ht];simp [hxsl]
 have hac:a≠c.s∧a≠c.r:=⟨fun e=>by have:=st.lt (.inl e);omega,fun e=>by have:=st.lt (.inr (.inl e));omega⟩
 have hoa:ov.id?≠some a:=fun e=>by have:=st.lt (.inr (.inr e));omega
 have hga1:h1.get a=some (ints (List.replicate 19 0)):=by rw[k3.FX a (g0.lt _ _ hga) hac.1 hac.2 hoa];exact hga
 have hfa:h1.floor≤a:=by rw[k3.fl,hg0,ha];simp;exact st.nx
 obtain⟨e2,h2,l1,l2,l3,l4,l5,l6,l7,l8,l9⟩:=Fu (c:=c) a x xs (fun s hs=>Dv s (List.mem_of_mem_take (hxs ▸ hs))) (by omega) hac (I many) xs [] (List.replicate 19 0) S1 h1 ov rfl rdx (by rw[hx];intro i e;cases e) k2 hoa hga1 (by simp) hfa
 obtain⟨cl,hcl⟩:∃cl,cl=(yP c xs (List.replicate 19 0) S1).1:=⟨_,rfl⟩
 obtain⟨S2,hS2⟩:∃cl,cl=(yP c xs (List.replicate 19 0) S1).2:=⟨_,rfl⟩
 rw[←hS2]at l5;rw[←hcl]at l6
 have hcll:cl.length=19:=by rw[hcl,Fs];simp
 have hclb:∀y∈cl,0≤y∧y<16:=by
  rw[hcl];refine G9 c _ _ _ fun y hy=> ?_
  obtain⟨_,rfl⟩:=List.mem_replicate.1 hy;omega
 rw[hxsl]at l1
 have l1':Lp AP.A [0,1,5,18,19,20] AP.f64L1 [(0,.aC c.s 0),(1,I many),(5,.aC a 0),(18,x),(19,I (G+4:Nat)),(20,I 0)] h1=some (.exit 0,e2,h2):=l1
 clear l1
 have fr2:Fr c h ov h2 ov:=by
  refine⟨by rw[l7,k3.fl,al.2.fl], ?_,fun id i1 i2 i3 i4=> ?_,fun i hi=>.inl hi⟩
  · have:=al.2.nx;have:=k3.nx;omega
  · have hn0:g0.next=h.next+1:=by rw[hg0];simp
    have:=k3.nx
    rw[l9 id (by omega) i2 i3 i4 (by omega),k3.FX id (by omega) i2 i3 i4,al.2.FX id i1 i2 i3 i4]
 have re:lM h2 19 1 (.aC a 0) none none=some (.aD a 0 19 1):=by
  simp [lM,l6,aA,hcll]
 have gE:Rd h2 (.aD a 0 19 1) (ints cl):=by
  refine⟨?_,by intro s e;cases e⟩
  simp [aR,l6,hcll,uM]
 have ck:=DU h2 (.aD a 0 19 1) cl (by omega) gE
 have mk:=yN h2 (.aD a 0 19 1) cl (by omega) hclb gE
 have hhead:(vh cl=0∧S2.e=0∧S.at_+4≤8* c.text.size∧S.at_+4+3* (u2 c.text S.at_ 4+4)≤8* c.text.size∧cl=Ed c.text (ve.take (u2 c.text S.at_ 4+4)) (S.at_+4) (List.replicate 19 0)∧S2={S with at_:=S.at_+4+3* (u2 c.text S.at_ 4+4)})∨((vh cl≠0∨S2.e≠0)∧(S2.e=0∨S2.e=700)∧xK c.text many S.at_=none):=by
  by_cases hp:S.at_+4≤8* c.text.size
  · have eg:uY c 4 S=(u2 c.text S.at_ 4,{S with at_:=S.at_+4}):=by rw[uY,if_pos hp]
    rw[eg]at hG hS1;dsimp only at hG hS1
    subst hS1
    by_cases hp2:S.at_+4+3* (u2 c.text S.at_ 4+4)≤8* c.text.size
    · have ok:=Ha c xs (List.replicate 19 0) {S with at_:=S.at_+4} he (by dsimp only;omega)
      rw[ok]at hcl hS2
      dsimp only at hcl hS2
      rw[hxsl,hG]at hS2
      rw[hxs,hG]at hcl
      by_cases hck:vh cl=0
      · exact .inl ⟨hck,by rw[hS2];exact he,hp,hp2,hcl,hS2⟩
      · refine .inr ⟨.inl hck,.inl (by rw[hS2];exact he), ?_⟩
        rw[xK,if_pos hp];dsimp only;rw[if_pos hp2,←hcl,if_neg hck]
    · have hb:=Fq c xs (List.replicate 19 0) {S with at_:=S.at_+4} he (by dsimp only;omega) (by dsimp only;omega)
      rw[←hS2]at hb
      refine .inr ⟨.inr (by rw[hb];decide),.inr hb, ?_⟩
      rw[xK,if_pos hp];dsimp only;rw[if_neg hp2]
  · have eg:uY c 4 S=(0,{S with e:=700}):=by rw[uY,if_neg hp,vr,if_pos he]
    rw[eg]at hS1;dsimp only at hS1
    have hb:=Ee c xs (List.replicate 19 0) S1 (by rw[hS1])
    rw[←hS2]at hb
    exact .inr ⟨.inr (by rw[hb];decide),.inr hb,by rw[xK,if_neg hp]⟩
 have hbk:∀(h3:H) (S3:SS),St c S3 h3 ov→Fr c h ov h3 ov→aQ AP.A 41 [.aD a 0 19 1] h3=some (vn cl,h3)→lM h3 19 1 (.aC a 0) none none=some (.aD a 0 19 1)→
  (aK (aQ AP.A) bo (.cond (.t 31) (.oA [⟨some 32,.mv (.t 0),none⟩,⟨some 33,.call (.c (.fn 45 [] [])) [(.t 32),(.c (.int .i64 700))],none⟩] [0,1,5]) .skip [0,1,5]) [(0,.aC c.s 0),(1,I many),(5,.aC a 0),(31,.bool (vh cl !=0))] h2=some (.normal,[(0,.aC c.s 0),(1,I many),(5,.aC a 0)],h3))→
  ∀(e4:Env) (h4:H) (av:AV) (acc:List Int) (h5:H),Lp AP.A [0,1,9,10] AP.f64L0 [(0,.aC c.s 0),(1,I many),(9,vn cl),(10,.aO)] h3=some (.exit 2,e4,h4)→look e4 0=.aC c.s 0→look e4 1=I many→look e4 10=av→iG false av=some (I acc.length)→
  (many<acc.length→aQ AP.A 45 [.aC c.s 0,I 700] h4=some (.bJ [],h5))→(¬many<acc.length→h5=h4)→aQ AP.A 64 [.aC c.s 0,I many] h=some (av,h5):=by
  intro h3 S3 st3 fr3 mk3 sla3 cnd e4 h4 av acc h5 m1 m2 m3 m4 m5 m6 m7
  refine sY (fn:=AP.f64) (e:=[(4,av)]) (vs:=[av]) rfl rfl rfl ?_ rfl
  have bt:∀e:Env,aX e (.alloc [.int .i64 0,.int .i64 0,.int .i64 0,.int .i64 0,.int .i64 0,.int .i64 0,.int .i64 0,.int .i64 0,.int .i64 0,.int .i64 0,.int .i64 0,.int .i64 0,.int .i64 0,.int .i64 0,.int .i64 0,.int .i64 0,.int .i64 0,.int .i64 0,.int .i64 0])=some (ints (List.replicate 19 0),fun i=>.aC i 0):=fun _=>rfl
  unfold AP.f64
  refine tR (e1:=[(0,.aC c.s 0),(1,I many)]) (h1:=h) rfl ?_
  refine tR (e1:=[(0,.aC c.s 0),(1,I many),(5,.aC a 0)]) (h1:=g0) ?_ ?_
  · simp only[go_sem,bt,←hg0,←ha]
  refine tR (e1:=[(0,.aC c.s 0),(1,I many),(5,.aC a 0),(6,vK ve)]) (h1:=g0) ?_ ?_
  · simp only[go_sem,oc]
  refine tR (e1:=[(0,.aC c.s 0),(1,I many),(5,.aC a 0)]) (h1:=h2) ?_ ?_
  · clear bt
    simp only[I]at *
    simp only[go_sem,k1,w1,QK,Re,sl,xl,rH,l1',l2,l3,l4]
  refine tR (e1:=[(0,.aC c.s 0),(1,I many),(5,.aC a 0)]) (h1:=h3) ?_ ?_
  · refine tR (e1:=[(0,.aC c.s 0),(1,I many),(5,.aC a 0),(31,.bool (vh cl !=0))]) (h1:=h2) ?_ cnd
    simp only[I]at *
    simp only[go_sem,Re,re,ck]
  refine tR (e1:=[(0,.aC c.s 0),(1,I many),(9,vn cl)]) (h1:=h3) ?_ ?_
  · simp only[go_sem,Re,sla3,mk3]
  refine tR (e1:=[(0,.aC c.s 0),(1,I many),(9,vn cl),(10,.aO)]) (h1:=h3) rfl ?_
  refine tR (e1:=[(0,.aC c.s 0),(1,I many),(10,av)]) (h1:=h4) ?_ ?_
  · simp only[go_sem,rH,m1,m2,m3,m4]
  refine tR (e1:=[(10,av)]) (h1:=h5) ?_ ?_
  · by_cases hgt:many<acc.length
    · have c1:(many:Int)<(acc.length:Int):=by omega
      have m6':=m6 hgt
      clear m6 m7
      simp only[I]at *
      simp only[go_sem,m5,QL c1,m6']
    · have c1:¬(many:Int)<(acc.length:Int):=by omega
      have m7':=m7 hgt
      subst m7'
      clear m6 m7
      simp only[I]at *
      simp only[go_sem,m5,QJ c1]
  simp only[go_sem]
 rcases hhead with ⟨hck,he2,hp,hp2,hcl2,hS22⟩|⟨hbad,he2,hnone⟩
 · have hlen0:xK c.text many S.at_=vR c.text cl many (8* c.text.size+1) [] S2.at_:=by
    rw[xK,if_pos hp];dsimp only;rw[if_pos hp2,←hcl2,if_pos hck,hS22]
   have cnd:aK (aQ AP.A) bo (.cond (.t 31) (.oA [⟨some 32,.mv (.t 0),none⟩,⟨some 33,.call (.c (.fn 45 [] [])) [(.t 32),(.c (.int .i64 700))],none⟩] [0,1,5]) .skip [0,1,5]) [(0,.aC c.s 0),(1,I many),(5,.aC a 0),(31,.bool (vh cl !=0))] h2=some (.normal,[(0,.aC c.s 0),(1,I many),(5,.aC a 0)],h2):=by
    have cb:(vh cl !=0)=false:=tJ hck
    simp only[go_sem,cb]
   obtain⟨e4,h4,S4,av,acc,m1,m2,m3,m4,m5,m6,m7,m8,m9,m10⟩:=Dq h cl (by omega) many hm (8* c.text.size+1) [] S2 h2 ov .aO l5 he2 (by omega) fr2 (.inl ⟨rfl,rfl⟩) (by simp) (fun i q=>by cases q) (fun i hi=>st.lt hi)
   have ln:=m7.len
   rw[pf]at ln
   rw[hlen0]
   cases hL:vR c.text cl many (8* c.text.size+1) [] S2.at_ with
   | some q =>
     obtain⟨L,p⟩:=q
     rw[hL]at m10
     obtain⟨n1,n2,n3⟩:=m10
     have hng:¬many<acc.length:=by rw[n2];omega
     refine⟨h4,S4,av,acc,hbk h2 S2 l5 fr2 mk re cnd e4 h4 av acc h4 m1 m2 m3 m4 ln (fun q=>absurd q hng) (fun _=>rfl),m5,m6,m7,m9, ?_,n2,n3⟩
     rw[n1,hS22]
   | none =>
     rw[hL]at m10
     dsimp only at m10 ⊢
     by_cases hgt:many<acc.length
     · obtain⟨h5,f1,f2,f3⟩:=wE m5 700
       refine⟨h5,vr 700 S4,av,acc,hbk h2 S2 l5 fr2 mk re cnd e4 h4 av acc h5 m1 m2 m3 m4 ln (fun _=>f1) (fun q=>absurd hgt q),f2,m6.trans f3, ?_,m9, ?_⟩
       · refine m7.mono f3.fl fun i hi=>f3.FX i (m7.lt hi) (fun e=> ?_) (fun e=> ?_) (fun e=> ?_)
         · have:=m9 i hi;have:=st.lt (.inl e);omega
         · have:=m9 i hi;have:=st.lt (.inr (.inl e));omega
         · have:=m9 i hi;have:=st.lt (.inr (.inr e));omega
       · rcases m10 with q|⟨q,_⟩<;>simp [vr,q]
     · refine⟨h4,S4,av,acc,hbk h2 S2 l5 fr2 mk re cnd e4 h4 av acc h4 m1 m2 m3 m4 ln (fun q=>absurd q hgt) (fun _=>rfl),m5,m6,m7,m9, ?_⟩
       rcases m10 with q|⟨_,q⟩
       · exact q
       · exact absurd q hgt
 · rw [hnone]
   have key:∃h3 S3,St c S3 h3 ov∧Fr c h ov h3 ov∧S3.e=700∧h3.get a=some (ints cl)∧aK (aQ AP.A) bo (.cond (.t 31) (.oA [⟨some 32,.mv (.t 0),none⟩,⟨some 33,.call (.c (.fn 45 [] [])) [(.t 32),(.c (.int .i64 700))],none⟩] [0,1,5]) .skip [0,1,5]) [(0,.aC c.s 0),(1,I many),(5,.aC a 0),(31,.bool (vh cl !=0))] h2=some (.normal,[(0,.aC c.s 0),(1,I many),(5,.aC a 0)],h3):=by
    by_cases hck:vh cl=0
    · have hb:S2.e≠0:=by rcases hbad with q|q;exact absurd hck q;exact q
      refine⟨h2,S2,l5,fr2,by rcases he2 with q|q;exact absurd q hb;exact q,l6, ?_⟩
      have cb:(vh cl !=0)=false:=tJ hck
      simp only[go_sem,cb]
    · obtain⟨h3,f1,f2,f3⟩:=wE l5 700
      refine⟨h3,vr 700 S2,f2,fr2.trans f3,by rcases he2 with q|q<;>simp [vr,q],by rw[f3.FX a (h2.lt _ _ l6) hac.1 hac.2 hoa];exact l6, ?_⟩
      have cb:(vh cl !=0)=true:=tK hck
      simp only[I]at *
      simp only[go_sem,cb,f1]
   obtain⟨h3,S3,st3,fr3,he3,hg3,cnd⟩:=key
   have sla3:lM h3 19 1 (.aC a 0) none none=some (.aD a 0 19 1):=by
    simp [lM,hg3,aA,hcll]
   have rdc3:Rd h3 (.aD a 0 19 1) (ints cl):=by
    refine⟨?_,by intro s e;cases e⟩
    simp [aR,hg3,hcll,uM]
   have mk3:=yN h3 (.aD a 0 19 1) cl (by omega) hclb rdc3
   obtain⟨e4,m1,m2,m3,m4⟩:=xn st3 (vn cl) many (av:=.aO) (acc:=[]) (.inl ⟨rfl,rfl⟩) (.inr ⟨by simpa using hm0,by rw[he3];decide⟩)
   exact⟨h3,S3,.aO,[],hbk h3 S3 st3 fr3 mk3 sla3 cnd e4 h3 .aO [] h3 m1 m2 m3 m4 rfl (fun q=>by simp at q) (fun _=>rfl),st3,fr3,.inl ⟨rfl,rfl⟩,(fun i q=>by cases q),he3⟩
def yO (l:List Int):Prop:=∀y∈l,0≤y∧y<16
theorem F0 {t : ByteArray} {y : Int} {acc : List Int} {n : Int} {q times p2 : Nat} (hy : 0 ≤ y ∧ y < 19) (ha : yO acc) (h : yi t y acc q = some (n, times, p2)) : 0 ≤ n ∧ n < 16 := by
 unfold yi at h
 split at h
 · split at h
   · cases h
   · rename_i hn
     split at h
     · have:=Rh (fun o=>o.map (·.1)) h
       simp only[QK,uh]at this
       rw[←this]
       have hl:0<acc.length:=List.length_pos_iff.2 hn
       refine ha _ ?_
       rw[QF,QH (by omega)]
       exact QW _
     · cases h
 · split at h
   · split at h
     · have:=Rh (fun o=>o.map (·.1)) h
       simp only[QK,uh]at this;omega
     · cases h
   · split at h
     · split at h
       · have:=Rh (fun o=>o.map (·.1)) h
         simp only[QK,uh]at this;omega
       · cases h
     · have:=Rh (fun o=>o.map (·.1)) h
       simp only[QK,uh]at this;omega
theorem Ak {t : ByteArray} {cl : List Int} (hcl : cl.length = 19) {many : Nat} : ∀ {f : Nat} {acc : List Int} {p : Nat} {L : List Int} {p2 : Nat}, yO acc → vR t cl many f acc p = some (L, p2) → yO L
 |0,_,_,_,_,_,h=>by cases h
 | f + 1, acc, p, L, p2, ha, h => by
   rw[vR]at h
   split at h
   · split at h
     · cases h
     · rename_i y p1 hs
       have sb:=xN hs
       split at h
       · cases h
       · rename_i n times q hag
         have hr:=F0 ⟨sb.1,by omega⟩ ha hag
         exact Ak hcl (fun y hy=>by
          rcases Q7.1 hy with hy|hy
          · exact ha y hy
          · obtain⟨_,rfl⟩:=List.mem_replicate.1 hy;exact hr) h
   · split at h
     · cases h
     · have:=Rh (fun o=>o.map (·.1)) h
       simp only[QK,uh]at this;rw[←this];exact ha
theorem Fo (t:ByteArray):∀(r:List Int) (p:Nat) (o:List Int),(Ed t r p o).length=o.length
 |[],_,_=>rfl
 |s::r,p,o=>by rw[Ed,Fo t r];simp
theorem HT {t:ByteArray} {many p:Nat} {L:List Int} {p2:Nat} (h:xK t many p=some (L,p2)):yO L:=by
 unfold xK at h
 split at h
 · dsimp only at h
   split at h
   · split at h
     · exact Ak (by rw[Fo];simp) (fun y hy=>by cases hy) h
     · cases h
   · cases h
 · cases h
def HL (t : ByteArray) (most : Int) (p : Nat) (out : List Nat) : Rs :=
 if p+10≤8* t.size then
  let lits:=u2 t p 5+257
  let dists:=u2 t (p+5) 5+1
  if 286<lits∨30<dists then .error 700 else
  match xK t (lits+dists) (p+10)with
  |none=>.error 700
  | some (L, p2) =>
    if vh (L.take lits)≠0∨(L.take lits).getD 256 0=0∨(vh (L.drop lits)≠0∧wL (L.drop lits)=false)then .error 700
    else wI t most (L.take lits) (L.drop lits) (8* t.size+1) p2 out
 else .error 700
theorem HM {c : SC} {S : SS} {h : H} {ov : AV} (st : St c S h ov) (he : S.e = 0) :
 ∃h' ov' S',aQ AP.A 44 [.aC c.s 0] h=some (.bJ [],h')∧St c S' h' ov'∧Fr c h ov h' ov'∧Fin (HL c.text c.most S.at_ S.out) S':=by
 obtain⟨h1,a1,a2,a3⟩:=xW st 5 5 rfl (by omega)
 obtain⟨h2,b1,b2,b3⟩:=xW a2 5 5 rfl (by omega)
 obtain⟨A,hA⟩:∃n,n=(uY c 5 S).1:=⟨_,rfl⟩
 obtain⟨S1,hS1⟩:∃n,n=(uY c 5 S).2:=⟨_,rfl⟩
 rw[←hA]at a1;rw[←hS1]at a2 b1 b2
 obtain⟨B,hB⟩:∃n,n=(uY c 5 S1).1:=⟨_,rfl⟩
 obtain⟨S2,hS2⟩:∃n,n=(uY c 5 S1).2:=⟨_,rfl⟩
 rw[←hB]at b1;rw[←hS2]at b2
 have g5:∀S,(uY c 5 S).1<32:=fun S=>by
  unfold uY;split
  · simpa using wx c.text S.at_ 5
  · simp
 have hA32:A<32:=hA ▸ g5 S
 have hB32:B<32:=hB ▸ g5 S1
 have w1:IntKind.wrap .i64 ((A:Int)+257)=((A+257:Nat):Int):=uX (n:=A+257) (by omega)
 have w2:IntKind.wrap .i64 ((B:Int)+1)=((B+1:Nat):Int):=uX (n:=B+1) (by omega)
 have gs2:=b2.gs
 have he2:S2.e=0∨S2.e=700:=by rw[hS2];exact IM c 5 _ (by rw[hS1];exact IM c 5 S (.inl he))
 have fr2:=a3.trans b3
 have bad:(S2.e≠0∨286<A+257∨30<B+1)→∃h' ov' S',aQ AP.A 44 [.aC c.s 0] h=some (.bJ [],h')∧St c S' h' ov'∧Fr c h ov h' ov'∧S'.e=700∧(700:Int)≠0:=by
  intro hb
  obtain⟨h3,f1,f2,f3⟩:=wE b2 700
  refine⟨h3,ov,vr 700 S2, ?_,f2,fr2.trans f3,by rcases he2 with q|q<;>simp [vr,q],by decide⟩
  refine sY (fn:=AP.f44) (e:=[]) (vs:=[]) rfl rfl rfl ?_ rfl
  by_cases c1:S2.e=0
  · have c1':=tJ c1
    by_cases c2:286<A+257
    · have c2':(286:Int)<((A+257:Nat):Int):=by omega
      simp only[I]at *
      simp only[AP.f44,go_sem,a1,b1,w1,w2,gs2,c1',QL c2',f1]
    · have c2':¬(286:Int)<((A+257:Nat):Int):=by omega
      have c3':(30:Int)<((B+1:Nat):Int):=by
       rcases hb with q|q|q
       · exact absurd c1 q
       · exact absurd q c2
       · omega
      simp only[I]at *
      simp only[AP.f44,go_sem,a1,b1,w1,w2,gs2,c1',QJ c2',QL c3',f1]
  · have c1':=tK c1
    simp only[I]at *
    simp only[AP.f44,go_sem,a1,b1,w1,w2,gs2,c1',f1]
 unfold HL
 by_cases hp:S.at_+10≤8* c.text.size
 · have e1 : uY c 5 S = (u2 c.text S.at_ 5, { S with at_ := S.at_ + 5 }) := by rw [uY, if_pos (by omega)]
   rw[e1]at hA hS1;dsimp only at hA hS1
   have e2:uY c 5 {S with at_:=S.at_+5}=(u2 c.text (S.at_+5) 5,{S with at_:=S.at_+5+5}):=by rw[uY,if_pos (by show S.at_+5+5≤_;omega)]
   rw[hS1,e2]at hB hS2;dsimp only at hB hS2
   rw[if_pos hp]
   dsimp only
   rw[←hA,←hB]
   by_cases hbig:286<A+257∨30<B+1
   · rw[if_pos hbig];exact bad (.inr hbig)
   · rw [if_neg hbig]
     have c1':(S2.e !=0)=false:=tJ (by rw[hS2];exact he)
     have c2':¬(286:Int)<((A+257:Nat):Int):=by omega
     have c3':¬(30:Int)<((B+1:Nat):Int):=by omega
     have w3:IntKind.wrap .i64 (((A+257:Nat):Int)+((B+1:Nat):Int))=((A+257+(B+1):Nat):Int):=by
      rw[show((A+257:Nat):Int)+((B+1:Nat):Int)=((A+257+(B+1):Nat):Int)by omega];exact uX (by omega)
     obtain⟨h3,S3,av,acc,l1,l2,l3,l4,l5,l6⟩:=HS b2 (by rw[hS2];exact he) (A+257+(B+1)) (by omega) (by omega)
     have gs3:=l2.gs
     have hat2:S2.at_=S.at_+10:=by rw[hS2]
     rw[hat2]at l6
     cases hL:xK c.text (A+257+(B+1)) (S.at_+10)with
     | none =>
       rw[hL]at l6
       have c4:(S3.e !=0)=true:=tK (by rw[l6];decide)
       refine⟨h3,ov,S3, ?_,l2,fr2.trans l3,l6,by decide⟩
       refine sY (fn:=AP.f44) (e:=[(0,.aC c.s 0),(2,I (A+257:Nat)),(4,av),(37,.bool true)]) (vs:=[]) rfl rfl rfl ?_ rfl
       simp only[I]at *
       simp only[AP.f44,go_sem,a1,b1,w1,w2,gs2,c1',QJ c2',QJ c3',w3,l1,gs3,c4]
     | some q =>
       obtain⟨L,p2⟩:=q
       rw[hL]at l6
       obtain⟨l6,l7,l8⟩:=l6
       subst l7
       have hrng:=HT hL
       dsimp only
       have he3:S3.e=0:=by rw[l6,hS2];exact he
       have c4:(S3.e !=0)=false:=tJ he3
       obtain⟨id,hav,hgid⟩:∃id,av=.aD id 0 (A+257+(B+1)) 1∧h3.get id=some (ints acc):=by
        rcases l4 with ⟨_,q⟩|⟨id,q1,q2,_⟩
        · have:=Rh List.length q;rw[pf,l8,QI]at this;omega
        · exact⟨id,by rw[q1,pf,l8],q2⟩
       have hil:(ints acc).length=A+257+(B+1):=by rw[pf,l8]
       have s1:=F4 (h:=h3) (k:=A+257) hgid hil (uv _) (by omega)
       have s2:=Ir (h:=h3) (k:=A+257) hgid hil (by omega)
       rw[show A+257+(B+1)-(A+257)=B+1 by omega]at s2
       rw[←hav]at s1 s2
       obtain⟨la,hla⟩:∃x,x=acc.take (A+257):=⟨_,rfl⟩
       obtain⟨lb,hlb⟩:∃x,x=acc.drop (A+257):=⟨_,rfl⟩
       have hlal:la.length=A+257:=by rw[hla,Q6];omega
       have hlbl:lb.length=B+1:=by rw[hlb,List.length_drop];omega
       have ra:Rd h3 (.aD id 0 (A+257) 1) (ints la):=by
        refine⟨?_,by intro s e;cases e⟩
        simp only[aR,if_true,hgid,uo]
        rw[if_pos (by rw[hil];omega),hla];simp [ints,List.map_take];omega
       have rb:Rd h3 (.aD id (A+257) (B+1) 1) (ints lb):=by
        refine⟨?_,by intro s e;cases e⟩
        simp only[aR,if_true,hgid,uo]
        rw[if_pos (by rw[hil];omega),hlb]
        have:(ints (acc.drop (A+257))).length=B+1:=by rw[pf,←hlb,hlbl]
        rw[this,ints,ints,←List.map_drop,Nat.mul_one,uM (by rw[Ri,←hlb,hlbl];omega)]
       rw[←hla,←hlb]
       have cka:=DU h3 _ la (by omega) ra
       have ckb:=DU h3 _ lb (by omega) rb
       have hra:yO la:=fun y hy=>hrng y (List.mem_of_mem_take (hla ▸ hy))
       have hrb:yO lb:=fun y hy=>hrng y (List.mem_of_mem_drop (hlb ▸ hy))
       have sgb:=Jr h3 _ lb (by omega) hrb rb
       have mka:=yN h3 _ la (by omega) hra ra
       have mkb:=yN h3 _ lb (by omega) hrb rb
       have hel:=Dj (l:=la) (i:=256) (by omega)
       obtain⟨ad,p1,p2'⟩:=ra.elem hel
       have p3:=p2' h3 (fun _ _ q=>q)
       have p1':fB 1 (.aD id 0 (A+257) 1) (I 256)=some ad:=p1
       clear p1 p2'
       obtain⟨cb,hcb⟩:∃b:Bool,(b=true↔vh la≠0∨la.getD 256 0=0∨(vh lb≠0∧wL lb=false)):=⟨decide _,decide_eq_true_iff⟩
       have step:∀k,aK (aQ AP.A) bo k [(0,.aC c.s 0),(2,I (A+257:Nat)),(4,av)] h3=aK (aQ AP.A) bo k [(0,.aC c.s 0),(2,I (A+257:Nat)),(4,av)] h3:=fun _=>rfl
       by_cases hbad:vh la≠0∨la.getD 256 0=0∨(vh lb≠0∧wL lb=false)
       · rw [if_pos hbad]
         obtain⟨h4,f1,f2,f3⟩:=wE l2 700
         refine⟨h4,ov,vr 700 S3, ?_,f2,(fr2.trans l3).trans f3,by simp [vr,he3],by decide⟩
         refine sY (fn:=AP.f44) (e:=[]) (vs:=[]) rfl rfl rfl ?_ rfl
         by_cases d1:vh la=0
         · have d1':=tJ d1
           by_cases d2:la.getD 256 0=0
           · have d2':=tI d2
             simp only[I]at *
             simp only[AP.f44,go_sem,a1,b1,w1,w2,gs2,c1',QJ c2',QJ c3',w3,l1,gs3,c4,QK,Re,s1,s2,cka,d1',p1',p3,d2',f1]
           · have d2':=tH d2
             obtain⟨d3,d4⟩:vh lb≠0∧wL lb=false:=by
              rcases hbad with q|q|q
              · exact absurd d1 q
              · exact absurd q d2
              · exact q
             have d3':=tK d3
             rw[d4]at sgb
             simp only[I]at *
             simp only[AP.f44,go_sem,a1,b1,w1,w2,gs2,c1',QJ c2',QJ c3',w3,l1,gs3,c4,QK,Re,s1,s2,cka,d1',p1',p3,d2',ckb,d3',sgb,f1]
         · have d1':=tK d1
           simp only[I]at *
           simp only[AP.f44,go_sem,a1,b1,w1,w2,gs2,c1',QJ c2',QJ c3',w3,l1,gs3,c4,QK,Re,s1,s2,cka,d1',f1]
       · rw [if_neg hbad]
         have d1:vh la=0:=Decidable.byContradiction fun q=>hbad (.inl q)
         have d2:la.getD 256 0≠0:=fun q=>hbad (.inr (.inl q))
         have d1':=tJ d1
         have d2':=tH d2
         obtain⟨h4,ov4,S4,q1,q2,q3,q4⟩:=GK la lb (by omega) (by omega) l2 he3
         refine⟨h4,ov4,S4, ?_,q2,(fr2.trans l3).trans q3, ?_⟩
         · refine vJ (fn:=AP.f44) (e:=[]) (vs:=[]) rfl rfl rfl ?_ rfl
           by_cases d3:vh lb=0
           · have d3':=tJ d3
             simp only[I]at *
             simp only[AP.f44,go_sem,a1,b1,w1,w2,gs2,c1',QJ c2',QJ c3',w3,l1,gs3,c4,QK,Re,s1,s2,cka,d1',p1',p3,d2',ckb,d3',mka,mkb,q1]
           · have d3':=tK d3
             have d4:wL lb=true:=by
              cases hs:wL lb with
              |true=>rfl
              |false=>exact absurd (.inr (.inr ⟨d3,hs⟩)) hbad
             rw[d4]at sgb
             simp only[I]at *
             simp only[AP.f44,go_sem,a1,b1,w1,w2,gs2,c1',QJ c2',QJ c3',w3,l1,gs3,c4,QK,Re,s1,s2,cka,d1',p1',p3,d2',ckb,d3',sgb,mka,mkb,q1]
         · have:S3.at_=p2:=by rw[l6]
           have ho:S3.out=S.out:=by rw[l6,hS2]
           rw[this,ho]at q4;exact q4
 · rw[if_neg hp]
   refine bad (.inl ?_)
   rw[hS2,hS1]
   unfold uY
   by_cases q1:S.at_+5≤8* c.text.size
   · simp only[if_pos q1];rw[if_neg (by omega)];simp [vr,he]
   · simp only[if_neg q1,vr,he,if_true];split<;>simp
def xQ (t : ByteArray) (most : Int) (p : Nat) (out : List Nat) : Except Int (Bool × Nat × List Nat) :=
 if p+3≤8* t.size then
  let r:Rs:=if u2 t (p+1) 2=0 then BD t most (p+3) out
   else if u2 t (p+1) 2=1 then wI t most vy (List.replicate 30 5) (8* t.size+1) (p+3) out
   else if u2 t (p+1) 2=2 then HL t most (p+3) out
   else .error 700
  match r with
  | .ok q=>.ok (u2 t p 1==1,q.1,q.2)
  | .error k=>.error k
 else .error 700
def NC (r:Except Int (Bool×Nat×List Nat)) (b:Bool) (S:SS):Prop:=match r with
 | .ok q=>b=q.1∧S=⟨q.2.1,q.2.2,0⟩
 | .error k=>S.e=k∧k≠0
theorem B4:vy.length=288:=by simp only[vy,uR,QV]
theorem Gc:yO vy:=by
 intro y hy
 simp only[vy,Q7]at hy
 rcases hy with hy|hy|hy|hy<;>(obtain⟨_,rfl⟩:=List.mem_replicate.1 hy;omega)
theorem HN:yO (List.replicate 30 5):=by
 intro y hy
 obtain⟨_,rfl⟩:=List.mem_replicate.1 hy;omega
theorem JW {c : SC} {S : SS} {h : H} {ov : AV} (st : St c S h ov) (he : S.e = 0) :
 ∃h' ov' S' b,aQ AP.A 15 [.aC c.s 0] h=some (.bool b,h')∧St c S' h' ov'∧Fr c h ov h' ov'∧NC (xQ c.text c.most S.at_ S.out) b S':=by
 obtain⟨h1,a1,a2,a3⟩:=xW st 1 1 rfl (by omega)
 obtain⟨h2,b1,b2,b3⟩:=xW a2 2 2 rfl (by omega)
 obtain⟨A,hA⟩:∃n,n=(uY c 1 S).1:=⟨_,rfl⟩
 obtain⟨S1,hS1⟩:∃n,n=(uY c 1 S).2:=⟨_,rfl⟩
 rw[←hA]at a1;rw[←hS1]at a2 b1 b2
 obtain⟨B,hB⟩:∃n,n=(uY c 2 S1).1:=⟨_,rfl⟩
 obtain⟨S2,hS2⟩:∃n,n=(uY c 2 S1).2:=⟨_,rfl⟩
 rw[←hB]at b1;rw[←hS2]at b2
 have gs2:=b2.gs
 have fr2:=a3.trans b3
 obtain⟨lb,hlb⟩:∃b:Bool,b=((A:Int)==1):=⟨_,rfl⟩
 unfold xQ
 by_cases hp:S.at_+3≤8* c.text.size
 · rw [if_pos hp]
   have e1:uY c 1 S=(u2 c.text S.at_ 1,{S with at_:=S.at_+1}):=by rw[uY,if_pos (by omega)]
   rw[e1]at hA hS1;dsimp only at hA hS1
   have e2:uY c 2 {S with at_:=S.at_+1}=(u2 c.text (S.at_+1) 2,{S with at_:=S.at_+1+2}):=by rw[uY,if_pos (by show S.at_+1+2≤_;omega)]
   rw[hS1,e2]at hB hS2;dsimp only at hB hS2
   have he2:S2.e=0:=by rw[hS2];exact he
   have hat:S2.at_=S.at_+3:=by rw[hS2]
   have hout:S2.out=S.out:=by rw[hS2]
   dsimp only
   rw[←hA,←hB]
   have hlb2:lb=(A==1):=by
    rw[hlb];by_cases q:A=1
    · subst q;rfl
    · rw[tH (by omega)];symm;simp [q]
   have wrap:∀(r:Rs) (h':H) (ov':AV) (S':SS),aQ AP.A 15 [.aC c.s 0] h=some (.bool lb,h')→St c S' h' ov'→Fr c h2 ov h' ov'→Fin r S'→∃h' ov' S' b,aQ AP.A 15 [.aC c.s 0] h=some (.bool b,h')∧St c S' h' ov'∧Fr c h ov h' ov'∧NC (match r with| .ok q=>.ok (A==1,q.1,q.2)| .error k=>.error k) b S':=by
    intro r h' ov' S' q1 q2 q3 q4
    refine⟨h',ov',S',lb,q1,q2,fr2.trans q3, ?_⟩
    cases r with
    |ok q=>exact⟨hlb2,q4⟩
    |error k=>exact q4
   have c0:(S2.e==0)=true:=tI he2
   by_cases d0:B=0
   · rw[if_pos d0]
     obtain⟨h',ov',S',q1,q2,q3,q4⟩:=JC b2 he2
     rw[hat,hout]at q4
     refine wrap _ h' ov' S' ?_ q2 q3 q4
     have d0':((B:Int)==0)=true:=tI (by omega)
     refine sY (fn:=AP.f15) (e:=[(2,.bool lb)]) rfl rfl rfl ?_ rfl
     simp only[I]at *
     simp only[AP.f15,go_sem,a1,b1,←hlb,d0',gs2,c0,q1]
   · rw [if_neg d0]
     have d0':((B:Int)==0)=false:=tH (by omega)
     by_cases d1:B=1
     · rw[if_pos d1]
       have d1':((B:Int)==1)=true:=tI (by omega)
       have f1:=GW h2
       have m1:=yN h2 (vK vy) vy (by rw[B4];omega) Gc (xc _ _)
       have al:=b2.alloc [I 5]
       have r1:=xC (h2.alloc [I 5]) (.aD h2.next 0 1 1) 5 30 (by omega) (za _ _)
       have r1':aQ AP.A 43 [.aD h2.next 0 1 1,I 30] (h2.alloc [I 5])=some (vK (List.replicate 30 5),h2.alloc [I 5]):=by
        rw[vK,QV];exact r1
       have m2:=yN (h2.alloc [I 5]) (vK (List.replicate 30 5)) (List.replicate 30 5) (by rw[QV];omega) HN (xc _ _)
       obtain⟨h',ov',S',q1,q2,q3,q4⟩:=GK vy (List.replicate 30 5) (by rw[B4];omega) (by rw[QV];omega) al.1 he2
       rw[hat,hout]at q4
       refine wrap _ h' ov' S' ?_ q2 (al.2.trans q3) q4
       refine sY (fn:=AP.f15) (e:=[(2,.bool lb)]) rfl rfl rfl ?_ rfl
       clear r1
       generalize vn vy=bf at *
       generalize vn (List.replicate 30 5)=bd at *
       generalize vK vy=vf at *
       generalize vK (List.replicate 30 5)=vd at *
       simp only[I]at *
       simp only[AP.f15,go_sem,a1,b1,←hlb,d0',d1',f1,m1,NK,I,r1',m2,q1]
     · rw[if_neg d1]
       have d1':((B:Int)==1)=false:=tH (by omega)
       by_cases d2:B=2
       · rw[if_pos d2]
         have d2':((B:Int)==2)=true:=tI (by omega)
         obtain⟨h',ov',S',q1,q2,q3,q4⟩:=HM b2 he2
         rw[hat,hout]at q4
         refine wrap _ h' ov' S' ?_ q2 q3 q4
         refine sY (fn:=AP.f15) (e:=[(2,.bool lb)]) rfl rfl rfl ?_ rfl
         simp only[I]at *
         simp only[AP.f15,go_sem,a1,b1,←hlb,d0',d1',d2',q1]
       · rw[if_neg d2]
         have d2':((B:Int)==2)=false:=tH (by omega)
         obtain⟨h',q1,q2,q3⟩:=wE b2 700
         refine wrap (.error 700) h' ov _ ?_ q2 q3 ⟨by simp [vr,he2],by decide⟩
         refine sY (fn:=AP.f15) (e:=[(2,.bool lb)]) rfl rfl rfl ?_ rfl
         simp only[I]at *
         simp only[AP.f15,go_sem,a1,b1,←hlb,d0',d1',d2',q1]
 · rw [if_neg hp]
   have hB0:B=0∧S2.e=700:=by
    by_cases q1:S.at_+1≤8* c.text.size
    · have e1:uY c 1 S=(u2 c.text S.at_ 1,{S with at_:=S.at_+1}):=by rw[uY,if_pos q1]
      rw[e1]at hS1;dsimp only at hS1
      have e2:uY c 2 S1=(0,{S1 with e:=700}):=by rw[uY,if_neg (by rw[hS1];show¬S.at_+1+2≤_;omega),vr,if_pos (by rw[hS1];exact he)]
      rw[e2]at hB hS2
      exact⟨hB,by rw[hS2]⟩
    · have e1:uY c 1 S=(0,{S with e:=700}):=by rw[uY,if_neg q1,vr,if_pos he]
      rw[e1]at hS1;dsimp only at hS1
      have e2:uY c 2 S1=(0,S1):=by rw[uY,if_neg (by rw[hS1];show¬S.at_+2≤_;omega),vr,if_neg (by rw[hS1];simp)]
      rw[e2]at hB hS2
      exact⟨hB,by rw[hS2,hS1]⟩
   have d0':((B:Int)==0)=true:=tI (by omega)
   have c0:(S2.e==0)=false:=tH (by rw[hB0.2];decide)
   refine⟨h2,ov,S2,lb, ?_,b2,fr2,hB0.2,by decide⟩
   refine sY (fn:=AP.f15) (e:=[(2,.bool lb)]) rfl rfl rfl ?_ rfl
   simp only[I]at *
   simp only[AP.f15,go_sem,a1,b1,←hlb,d0',gs2,c0]
def yu (t : ByteArray) (most : Int) : Nat → Nat → List Nat → Rs
 |0,_,_=>.error 700
 | f + 1, p, out => match xQ t most p out with
   | .error k=>.error k
   | .ok (last,p2,o)=>if last then .ok (p2,o)else yu t most f p2 o
theorem E7 {c:SC} {S:SS} {h:H} {ov:AV} (st:St c S h ov) (b:Bool) (hs:b=true∨S.e≠0):
 ∃e',Lp AP.A [7,8] AP.f7L0 [(7,.aC c.s 0),(8,.bool b)] h=some (.exit 0,e',h)∧look e' 7=.aC c.s 0:=by
 have gs:=st.gs
 refine⟨[(7,.aC c.s 0),(28,.bool false)],sJ ?_,rfl⟩
 cases b with
 | true =>
   simp only[I]at *
   simp only[AP.f7L0,go_sem]
 | false =>
   have c2:(S.e==0)=false:=tH (by rcases hs with q|q;cases q;exact q)
   simp only[I]at *
   simp only[AP.f7L0,go_sem,gs,c2]
theorem DI {t:ByteArray} {most:Int}:∀{n p:Nat} {out:List Nat} {p2:Nat} {o:List Nat},xR t most n p out=.ok (p2,o)→p≤p2
 |0,p,out,p2,o,h=>by rw[xR]at h;cases h;exact uv _
 | n + 1, p, out, p2, o, h => by
   rw[xR]at h
   split at h
   · split at h
     · cases h
     · have:=DI h;omega
   · cases h
theorem yW {t : ByteArray} {most : Int} {ll dl : List Int} : ∀ {k p : Nat} {out : List Nat} {p2 : Nat} {o : List Nat}, wI t most ll dl k p out = .ok (p2, o) → p < p2
 |0,_,_,_,_,h=>by cases h
 | k + 1, p, out, p2, o, h => by
   rw[wI]at h
   split at h
   · cases h
   · rename_i y p1 hs
     have sb:=xN hs
     split at h
     · split at h
       · cases h
       · have:=yW h;omega
     · split at h
       · cases h;omega
       · split at h
         · rename_i p3 o3 hc
           have:=EN hc
           have:=yW h;omega
         · cases h
theorem Bd {t : ByteArray} {cl : List Int} {many : Nat} : ∀ {f : Nat} {acc : List Int} {p : Nat} {L : List Int} {p2 : Nat}, vR t cl many f acc p = some (L, p2) → p ≤ p2
 |0,_,_,_,_,h=>by cases h
 | f + 1, acc, p, L, p2, h => by
   rw[vR]at h
   split at h
   · split at h
     · cases h
     · rename_i y p1 hs
       have sb:=xN hs
       split at h
       · cases h
       · rename_i n times q hag
         have:=Bd h
         have:p1≤q:=by
          unfold yi at hag
          repeat' split at hag
          all_goals first
           |(cases hag;done)
           |(have:=Rh (fun o=>o.map (·.2.2)) hag;simp only[QK,uh]at this;omega)
         omega
   · split at h
     · cases h
     · have:=Rh (fun o=>o.map (·.2)) h
       simp only[QK,uh]at this;omega
theorem HE {t : ByteArray} {most : Int} {p : Nat} {out : List Nat} {q : Bool × Nat × List Nat} (h : xQ t most p out = .ok q) : p < q.2.1 := by
 unfold xQ at h
 split at h
 · dsimp only at h
   have key:∀{r:Rs},(match r with| .ok q=>Except.ok (u2 t p 1==1,q.1,q.2)| .error k=>.error k)=Except.ok (ε:=Int) q→∃z,r=.ok z∧z.1=q.2.1:=by
    intro r h
    cases r with
    |ok z=>cases h;exact⟨z,rfl,rfl⟩
    |error k=>cases h
   obtain⟨z,h1,h2⟩:=key h
   rw[←h2]
   split at h1
   · unfold BD at h1
     dsimp only at h1
     split at h1
     · split at h1
       · have:=DI h1;omega
       · cases h1
     · cases h1
   · split at h1
     · have:=yW h1;omega
     · split at h1
       · unfold HL at h1
         split at h1
         · dsimp only at h1
           split at h1
           · cases h1
           · split at h1
             · cases h1
             · rename_i L p2 hl
               split at h1
               · cases h1
               · have:=yW h1
                 have:p+3≤p2:=by
                  unfold xK at hl
                  split at hl
                  · dsimp only at hl
                    split at hl
                    · split at hl
                      · have:=Bd hl;omega
                      · cases hl
                    · cases hl
                  · cases hl
                 omega
         · cases h1
       · cases h1
 · cases h
theorem E6 {c : SC} : ∀ (f : Nat) (S : SS) (h : H) (ov : AV), St c S h ov → S.e = 0 → 8 * c.text.size < S.at_ + f →
 ∃e' h' ov' S',Lp AP.A [7,8] AP.f7L0 [(7,.aC c.s 0),(8,.bool false)] h=some (.exit 0,e',h')∧look e' 7=.aC c.s 0∧St c S' h' ov'∧Fr c h ov h' ov'∧Fin (yu c.text c.most f S.at_ S.out) S'
 |0,S,h,ov,st,he,hk=>by have:=st.xS;omega
 | f + 1, S, h, ov, st, he, hk => by
   have gs:=st.gs
   obtain⟨h1,ov1,S1,b,q1,q2,q3,q4⟩:=JW st he
   have step:aK (aQ AP.A) bo AP.f7L0 (ax [(7,.aC c.s 0),(8,.bool false)] [7,8]) h=some (.normal,[(7,.aC c.s 0),(8,.bool b)],h1):=by
    simp only[I]at *
    simp only[AP.f7L0,go_sem,gs,he,q1]
   rw[yu]
   cases hb:xQ c.text c.most S.at_ S.out with
   | error k =>
     rw[hb]at q4
     obtain⟨e',r1,r2⟩:=E7 q2 b (.inr (by rw[q4.1];exact q4.2))
     exact⟨e',h1,ov1,S1,sK step r1,r2,q2,q3,q4⟩
   | ok z =>
     obtain⟨last,p2,o⟩:=z
     rw[hb]at q4
     obtain⟨q5,q6⟩:=q4
     dsimp only at q5 q6 ⊢
     subst q5
     cases b with
     | true =>
       obtain⟨e',r1,r2⟩:=E7 q2 true (.inl rfl)
       exact⟨e',h1,ov1,S1,sK step r1,r2,q2,q3,q6⟩
     | false =>
       have hge:=HE hb
       dsimp only at hge
       subst q6
       obtain⟨e',h',ov',S',r1,r2,r3,r4,r5⟩:=E6 f _ h1 ov1 q2 rfl (by dsimp only;omega)
       exact⟨e',h',ov',S',sK step r1,r2,r3,q3.trans r4,r5⟩
def bytesOf (l:List Nat):ByteArray:=⟨(l.map UInt8.ofNat).toArray⟩
def wW (t:ByteArray) (most:Int):Except Int (List Nat×Nat):=
 if most<0∨8192<most then .error 700 else
 match yu t most (8* t.size+1) 0 []with
 | .ok q=>.ok (q.2,(q.1+7)/8)
 | .error k=>.error k
def Pr (r:Except Int (List Nat×Nat)):AV:=match r with
 | .ok q=>.bJ [.str (bytesOf q.1),I q.2,I 0]
 | .error k=>.bJ [.str ⟨#[]⟩,I 0,I k]
theorem DR:∀l:List Nat,kg (xI l)=some (l.map UInt8.ofNat)
 |[]=>rfl
 | x :: l => by
   have:xI (x::l)=.int .u8 x::xI l:=rfl
   rw[this,kg,DR l];simp
theorem JT {h:H} {v:AV} {l:List Nat} (o:mV h v (xI l)):th h v (aR h 1 v)=some (.str (bytesOf l),h):=by
 rcases o with ⟨rfl,q⟩|⟨id,rfl,q,_⟩
 · have:l=[]:=by cases l with|nil=>rfl|cons _ _=>cases q
   subst this;rfl
 · simp only[aR,if_true,q,uo]
   rw[if_pos (by omega)]
   have:((xI l).drop 0).take ((xI l).length* 1)=xI l:=by rw[QZ,Nat.mul_one,List.take_length]
   rw[this]
   simp only[th,uo,DR];rfl
theorem Dh (h : H) (hf : h.floor ≤ h.next) (t : ByteArray) (most : Int) (hs : t.size < 1125899906842624) : aQ AP.A 7 [.str t, I most] h = some (Pr (wW t most), h) := by
 unfold wW
 by_cases c1:most<0
 · rw[if_pos (.inl c1)]
   refine tB (fn:=AP.f7) (h2:=h.dG) (e:=[(4,.str ⟨#[]⟩),(5,I 0),(6,I 700)]) rfl rfl rfl ?_ rfl rfl
   simp only[I]at *
   simp only[AP.f7,go_sem,QL c1]
 by_cases c2:8192<most
 · rw[if_pos (.inr c2)]
   refine tB (fn:=AP.f7) (h2:=h.dG) (e:=[(4,.str ⟨#[]⟩),(5,I 0),(6,I 700)]) rfl rfl rfl ?_ rfl rfl
   simp only[I]at *
   simp only[AP.f7,go_sem,QJ c1,QL c2]
 rw[if_neg (by omega)]
 obtain⟨h1,hh1⟩:∃g,g=h.dG.alloc [.str t,I 0]:=⟨_,rfl⟩
 obtain⟨h2,hh2⟩:∃g,g=h1.alloc [.aC h.next 0,.aO,I most,I 0]:=⟨_,rfl⟩
 have of1:=Pu h.dG t
 rw[←hh1]at of1
 have n1:h1.next=h.next+1:=by rw[hh1];simp
 have st:St ⟨h.next+1,h.next,t,most⟩ ⟨0,[],0⟩ h2 .aO:=by
  refine⟨?_, ?_,.inl ⟨rfl,rfl⟩,by simp, ?_, ?_,by simp [AV.id?],by simp [AV.id?], ?_,hs,by simp,by simp;omega,by show most≤900000;omega⟩
  · rw[hh2,H.aV,if_pos n1.symm]
  · rw[hh2,H.aV,if_neg (by show h.next≠h1.next;omega),hh1,H.aV,if_pos (show h.next=h.dG.next from rfl)];rfl
  · rw[hh2,hh1];simp
  · rw[hh2,hh1];simp
  · rw[hh2,hh1];simp;omega
 obtain⟨e',h3,ov,S,q1,q2,q3,q4,q5⟩:=E6 (8* t.size+1) ⟨0,[],0⟩ h2 .aO st rfl (by show 8* t.size<0+(8* t.size+1);omega)
 have gs:=q3.gs
 have bx:∀e:Env,look e 18=.agg [.aC h.next 0,.aO,.int .i64 most,.int .i64 0]→aX e (.box 4 (.t 18))=some ([.aC h.next 0,.aO,.int .i64 most,.int .i64 0],fun i=>.aC i 0):=by
  intro e q;simp only[aX,rJ,q];rfl
 have fl:dH [.b9,.aO,.int .i64 0,.int .i64 0] [(0,1,.aC h.next 0),(2,1,.int .i64 most)]=some [.aC h.next 0,.aO,.int .i64 most,.int .i64 0]:=rfl
 have hn:h.dG.next=h.next:=rfl
 dsimp only at q5
 cases hi:yu t most (8* t.size+1) 0 []with
 | error k =>
   rw[hi]at q5
   have c3:(S.e !=0)=true:=tK (by rw[q5.1];exact q5.2)
   have hk:S.e=k:=q5.1
   refine tB (fn:=AP.f7) (h2:=h3) (e:=[(4,.str ⟨#[]⟩),(5,I 0),(6,I k)]) rfl rfl rfl ?_ rfl rfl
   simp only[I]at *
   simp only[AP.f7,go_sem,QJ c1,QJ c2,of1,hn,QO,Rj,fl]
   rw[bx _ rfl]
   rw[hk]at gs c3
   simp only[go_sem,←hh2,n1,rH,q1,q2,gs,c3]
 | ok z =>
   obtain⟨p,o⟩:=z
   rw[hi]at q5
   simp only[Fin]at q5
   have c3:(S.e !=0)=false:=tJ (by rw[q5])
   obtain⟨h4,a1,a2,a3⟩:=q3.align
   have gs4:=a2.gs
   have gr4:=a2.gr
   have at4:=Pk h4 h.next t _ gr4
   have hb:=JT a2.own
   subst q5
   dsimp only at gs4 gr4 at4 hb a2 gs c3
   have hle:=a2.xS
   dsimp only at hle
   have qd:bh .quo (.int .i64 (((p+7)/8* 8:Nat):Int)) (.int .i64 8)=some (.int .i64 (((p+7)/8:Nat):Int)):=by
    rw[rk _ _ _ (by omega),show(8:Int)=((8:Nat):Int)from rfl,ye,Nat.mul_div_cancel _ (by omega),uX (by omega)]
   refine tB (fn:=AP.f7) (h2:=h4) (e:=[(4,.str (bytesOf o)),(5,I ((p+7)/8:Nat)),(6,I 0)]) rfl rfl rfl ?_ rfl rfl
   generalize (p+7)/8* 8=P8 at *
   generalize (p+7)/8=P at *
   simp only[I]at *
   simp only[AP.f7,go_sem,QJ c1,QJ c2,of1,hn,QO,Rj,fl]
   rw[bx _ rfl]
   simp only[go_sem,←hh2,n1,rH,q1,q2,gs,c3,a1]
   rw[Ij (e':=[(6,.int .i64 0),(5,.int .i64 P),(4,.str (bytesOf o)),(55,.int .i64 P),(54,.int .i64 P8),(53,.aC h.next 0),(52,.aC (h.next+1) 0),(51,.aC (h.next+1) 0),(50,.aC (h.next+1) 0),(49,.str (bytesOf o)),(48,ov),(47,.aC (h.next+1) 1),(46,.aC (h.next+1) 0),(45,.aC (h.next+1) 0),(7,.aC (h.next+1) 0)]) (h':=h4) (gs:=[h4,h4])]
   · simp only[go_sem]
   · simp only[Ar,Eb,DZ,Ei,Eh,bR.aN,go_sem,gs4,hb,at4,qd]
   · refine AX (fun k hk=> ?_) (AX (fun k hk=> ?_) rfl)
     · obtain rfl:k=1:=by simpa using hk
       refine AW (o:=⟨some 48,.load false 1 (.t 47),none⟩) (g:=h4) (h':=h4) (d:=48) (u:=ov) rfl rfl rfl rfl ?_ ?_
       · simp only[ai,go_sem,gs4]
       · simp only[go_sem]
         rcases a2.own with ⟨rfl,_⟩|⟨id,rfl,_⟩
         · rfl
         · exact BG _ _ _ _
     · obtain rfl:k=1:=by simpa using hk
       refine AW (o:=⟨some 49,.kg (.t 48),none⟩) (g:=h4) (h':=h4) (d:=49) (u:=.str (bytesOf o)) rfl rfl rfl rfl ?_ ?_
       · simp only[ai,go_sem,hb]
       · simp only[go_sem,Bv]
theorem KG (h:H) (n:Int):aQ AP.A 9 [I n] h=some (I n,h):=by
 refine tB (fn:=AP.f9) (h2:=h.dG) (e:=[(2,I n)]) rfl rfl rfl ?_ rfl rfl
 simp only[I]at *
 simp only[AP.f9,go_sem]
theorem Iw {a b:Nat} (ha:a<256) (hb:b<256):bits .or .u8 (a:Int) (b:Int)=((a|||b:Nat):Int):=by
 have h3:a|||b<2^8:=Nat.or_lt_two_pow (by simpa using ha) (by simpa using hb)
 show IntKind.wrap .u8 (((BitVec.ofInt 8 (a:Int)|||BitVec.ofInt 8 (b:Int)).toNat:Nat):Int)=_
 rw[BitVec.toNat_or,xu 8 a (by omega),xu 8 b (by omega)]
 exact wrap_u8 (by simpa using h3)
def vI (out:List Nat) (i:Nat) (b:Nat):List Nat:=
 let o:=if i%8=0 then out++[0]else out
 o.set (i/8) (o.getD (i/8) 0|||b* 2^(i%8))
def wu:List Nat→Nat→List Nat→List Nat
 |[],_,out=>out
 |b::r,i,out=>wu r (i+1) (vI out i b)
theorem Bg {out:List Nat} {i b:Nat} (h:out.length=(i+7)/8):(vI out i b).length=(i+1+7)/8:=by
 unfold vI
 dsimp only
 rw[Q1]
 split
 · rw[uR,h];simp;omega
 · rw[h];omega
theorem Bf {out:List Nat} {i b:Nat} (hb:b≤1) (h:JM out):JM (vI out i b):=by
 have h1:JM (if i%8=0 then out++[0]else out):=by
  split
  · intro x hx
    rcases Q7.1 hx with q|q
    · exact h x q
    · simp at q;omega
  · exact h
 intro x hx
 unfold vI at hx
 dsimp only at hx
 rcases Ra hx with q|q
 · exact h1 x q
 · subst q
   have h2:(if i%8=0 then out++[0]else out).getD (i/8) 0<2^8:=by
    rw[QF]
    cases hg:(if i%8=0 then out++[0]else out)[i/8]? with
    |none=>simp
    |some y=>simpa using h1 y (uz hg)
   have h3:b* 2^(i%8)<2^8:=by
    have:2^(i%8)≤2^7:=QX (by omega) (by omega)
    have:b* 2^(i%8)≤1* 2^7:=Nat.mul_le_mul hb this
    omega
   simpa using Nat.or_lt_two_pow h2 h3
theorem mV.set {h:H} {v:AV} {cs:List AV} (o:mV h v cs) {i:Nat} (hi:i<cs.length) (x:AV):∃id,v=.aD id 0 cs.length 1∧h.get id=some cs∧h.floor≤id∧mV (h.set id (cs.set i x)) v (cs.set i x):=by
 rcases o with ⟨rfl,rfl⟩|⟨id,rfl,h1,h2,h3⟩
 · simp at hi
 · exact⟨id,rfl,h1,h2,.inr ⟨id,by simp,by rw[H.dd,if_pos rfl,h1];rfl,by simpa using h2,by intro e;apply h3;have:=Rh List.length e;simpa using this⟩⟩
structure PZ (a t:ByteArray):Prop where
 sz:a.size≤t.size
 bit:∀i,i<8* a.size→wA a i=wA t i
section
variable {a t:ByteArray} (h:PZ a t)
include h
end
variable {t:ByteArray} {most most':Int}
theorem vH (l:List Nat):(bytesOf l).size=l.length:=by
 show(l.map UInt8.ofNat).toArray.size=_
 simp
structure FC where
 f:Nat
 text:ByteArray
 most:Int
structure Ft (c:FC) (S:SS) (h:H) (ov:AV):Prop where
 gf:h.get c.f=some [.str c.text,I S.at_,ov,I c.most,I S.e]
 own:mV h ov (xI S.out)
 ff:h.floor≤c.f
 of:ov.id?≠some c.f
 nx:h.floor≤h.next
 sz:c.text.size<1125899906842624
 xS:S.at_≤8* c.text.size
 ol:(S.out.length:Int)≤c.most
 ml:c.most≤900000
structure FF (c:FC) (h:H) (ov:AV) (h':H) (ov':AV):Prop where
 fl:h'.floor=h.floor
 nx:h.next≤h'.next
 FX:∀id,id<h.next→id≠c.f→ov.id?≠some id→h'.get id=h.get id
 nb:∀i,ov'.id?=some i→ov.id?=some i∨h.next≤i
theorem FF.refl (c:FC) (h:H) (ov:AV):FF c h ov h ov:=⟨rfl,uv _,fun _ _ _ _=>rfl,fun _ q=>.inl q⟩
theorem FF.trans {c:FC} {h1 h2 h3:H} {o1 o2 o3:AV} (a:FF c h1 o1 h2 o2) (b:FF c h2 o2 h3 o3):FF c h1 o1 h3 o3:=by
 refine⟨b.fl.trans a.fl,uP a.nx b.nx,fun id h4 h5 h7=> ?_,fun i hi=> ?_⟩
 · rw[b.FX id (Nat.lt_of_lt_of_le h4 a.nx) h5 (fun q=> ?_),a.FX id h4 h5 h7]
   rcases a.nb id q with q|q
   · exact h7 q
   · omega
 · rcases b.nb i hi with q|q
   · exact a.nb i q
   · exact .inr (uP a.nx q)
theorem Ft.vE {c:FC} {S:SS} {h h':H} {ov:AV} (st:Ft c S h ov) (hf:h'.floor=h.floor) (hn:h.next≤h'.next) (hg:∀i,i=c.f∨ov.id?=some i→h'.get i=h.get i):Ft c S h' ov:=
 ⟨by rw[hg _ (.inl rfl)];exact st.gf,st.own.mono hf fun i hi=>hg i (.inr hi),by rw[hf];exact st.ff,st.of,by rw[hf];exact uP st.nx hn,st.sz,st.xS,st.ol,st.ml⟩
theorem Ft.lt {c:FC} {S:SS} {h:H} {ov:AV} (st:Ft c S h ov) {i:Nat} (hi:i=c.f∨ov.id?=some i):i<h.next:=by
 rcases hi with rfl|hi
 · exact h.lt _ _ st.gf
 · exact st.own.lt hi
theorem Ft.alloc {c:FC} {S:SS} {h:H} {ov:AV} (st:Ft c S h ov) (cs:List AV):Ft c S (h.alloc cs) ov∧FF c h ov (h.alloc cs) ov:=by
 refine⟨st.vE (by simp) (by simp) fun i hi=> ?_,⟨by simp,by simp,fun id h1 _ _=> ?_,fun _ q=>.inl q⟩⟩
 · have:=st.lt hi;rw[H.aV,if_neg (by omega)]
 · rw[H.aV,if_neg (by omega)]
structure QB (h0 h:H) (b:Nat) (D:Nat→AV) (k:Nat) (p S0:List Int):Prop where
 get:h.get b=some (mX 17 D)
 fl:h.floor=h0.next
 fb:h0.next≤b
 nx:h.floor≤h.next
 low:∀id,id<h0.next→h.get id=h0.get id
 ck:D k=I (wh p k)
 own:mV h (D 16) (ints (S0++syms p k))
 nb:(D 16).id?≠some b
theorem J2 (n:Nat):wh [] n=0:=by unfold wh;split<;>rfl
theorem zf {h:H} {v:AV} {l:List Int} {fl:Nat} (o:mV h v (ints l)) (hf:fl≤h.floor) (hl:l≠[]):snap h.get fl 16 true v=some (vK l):=by
 rcases o with ⟨_,q⟩|⟨id,rfl,q,h2,_⟩
 · exact absurd (List.map_eq_nil_iff.1 q) hl
 · unfold snap
   rw[if_neg (by omega),q,uo,if_pos (by omega)]
   rw[QZ,Nat.mul_one,List.take_length,wR]
   simp [vK]
theorem Ch (p:List Int) (x:Int):∀n:Nat,vg (p++[x]) n=vg p n-(if 1≤x∧x≤n then 2^(n-x.toNat)else 0)
 | 0 => by
   rw[if_neg (by omega)];simp [vg]
 | n + 1 => by
   have e1:vg (p++[x]) (n+1)=vg (p++[x]) n* 2-wh (p++[x]) (n+1):=rfl
   have e2:vg p (n+1)=vg p n* 2-wh p (n+1):=rfl
   rw[e1,e2,Ch p x n,yG]
   by_cases h1:x=((n+1:Nat):Int)
   · rw[if_neg (by omega),if_pos ⟨by omega,h1⟩,if_pos (by omega)]
     rw[show n+1-x.toNat=0 by omega];simp;omega
   · rw[if_neg (show¬(n+1≠0∧x=((n+1:Nat):Int))from fun q=>h1 q.2)]
     by_cases h2:1≤x∧x≤(n:Int)
     · rw[if_pos h2,if_pos (by omega),show n+1-x.toNat=(n-x.toNat)+1 by omega,Int.pow_succ];omega
     · rw[if_neg h2,if_neg (by omega)];omega
def Ax (l:List Nat) (i j:Nat):List Nat:=(l.set i (l.getD j 0)).set j (l.getD i 0)
theorem xi (l:List Nat) (i j:Nat):(Ax l i j).length=l.length:=by simp [Ax]
theorem Er {l:List Nat} {i j k:Nat} (hi:i<l.length) (hj:j<l.length):(Ax l i j).getD k 0=if k=j then l.getD i 0 else if k=i then l.getD j 0 else l.getD k 0:=by
 unfold Ax
 simp only[QF,QU,Q1]
 by_cases a:j=k
 · subst a;simp [hj]
 · by_cases b:i=k
   · subst b;simp [hi,a,Ne.symm a]
   · simp [a,b,Ne.symm a,Ne.symm b]
theorem yc {l:List Nat} {i j:Nat} (hi:i<l.length) (hj:j<l.length):(Ax l i j).Perm l:=by
 rw[List.perm_iff_count]
 intro a
 unfold Ax
 have e1:l.getD i 0=l[i]:=by rw[QF,QH hi];rfl
 have e2:l.getD j 0=l[j]:=by rw[QF,QH hj];rfl
 rw[e1,e2,List.count_set (by simpa using hj),List.count_set hi]
 have e3:(l.set i l[j])[j]'(by simpa using hj)=l[j]:=by
  rw[List.getElem_set];split
  · rfl
  · rfl
 rw[e3]
 have c1:l[i]==a→1≤l.count a:=fun h=>List.count_pos_iff.2 (by rw[←eq_of_beq h];exact QW hi)
 by_cases p:(l[i]==a)=true
 · have:=c1 p
   by_cases q:(l[j]==a)=true
   · simp only[p,q,if_true];omega
   · simp only[p,q,if_true];simp;omega
 · by_cases q:(l[j]==a)=true
   · simp only[p,q,if_true];simp
   · simp only[p,q];simp
section
variable (ky:Nat→Int)
def PY (lo n ex:Nat) (l:List Nat):Prop:=(∀c,0<c→c<n→lo≤(c-1)/2→(c-1)/2≠ex→ky (l.getD ((c-1)/2) 0)≤ky (l.getD c 0))∧
 (∀c,0<c→c<n→(c-1)/2=ex→0<ex→lo≤(ex-1)/2→ky (l.getD ((ex-1)/2) 0)≤ky (l.getD c 0))
def FZ (lo n:Nat) (l:List Nat):Prop:=∀c,0<c→c<n→lo≤(c-1)/2→ky (l.getD ((c-1)/2) 0)≤ky (l.getD c 0)
def CS (n i:Nat) (l:List Nat):Nat:=if 2* i+2<n∧ky (l.getD (2* i+2) 0)<ky (l.getD (2* i+1) 0)then 2* i+2 else 2* i+1
def sink (n:Nat):Nat→Nat→List Nat→List Nat
 |0,_,l=>l
 |f+1,i,l=>if n≤2* i+1 then l else if ky (l.getD (CS ky n i l) 0)<ky (l.getD i 0)then sink n f (CS ky n i l) (Ax l i (CS ky n i l))else l
def Cy:Nat→Nat→List Nat→List Nat
 |0,_,l=>l
 |f+1,j,l=>if j=0 then l else if ky (l.getD j 0)<ky (l.getD ((j-1)/2) 0)then Cy f ((j-1)/2) (Ax l ((j-1)/2) j)else l
variable {ky}
theorem BA {n i:Nat} {l:List Nat} (h:2* i+1<n):(CS ky n i l=2* i+1∨CS ky n i l=2* i+2)∧CS ky n i l<n:=by
 unfold CS;split
 · rename_i c;exact⟨.inr rfl,c.1⟩
 · exact⟨.inl rfl,h⟩
theorem HQ {n i:Nat} {l:List Nat} (h:2* i+1<n) {c:Nat} (h0:0<c) (hc:c<n) (hp:(c-1)/2=i):ky (l.getD (CS ky n i l) 0)≤ky (l.getD c 0):=by
 have:c=2* i+1∨c=2* i+2:=by omega
 unfold CS;split
 · rename_i q
   rcases this with rfl|rfl
   · exact Int.le_of_lt q.2
   · exact Rg _
 · rename_i q
   rcases this with rfl|rfl
   · exact Rg _
   · by_cases z:ky (l.getD (2* i+2) 0)<ky (l.getD (2* i+1) 0)
     · exact absurd ⟨hc,z⟩ q
     · omega
theorem Eo {lo n : Nat} : ∀ (f i : Nat) (l : List Nat), n ≤ i + f → lo ≤ i → n ≤ l.length → PY ky lo n i l → FZ ky lo n (sink ky n f i l) ∧ (sink ky n f i l).Perm l ∧ (∀ k, n ≤ k → (sink ky n f i l).getD k 0 = l.getD k 0)
 | 0, i, l, hf, hlo, hl, hx => by
   refine⟨fun c h0 hc hp=>hx.1 c h0 hc hp (by omega),Rf _,fun _ _=>rfl⟩
 | f + 1, i, l, hf, hlo, hl, hx => by
   rw[sink]
   by_cases c0:n≤2* i+1
   · rw[if_pos c0]
     exact⟨fun c h0 hc hp=>hx.1 c h0 hc hp (by omega),Rf _,fun _ _=>rfl⟩
   · rw [if_neg c0]
     obtain⟨kr,kn⟩:=BA (ky:=ky) (n:=n) (i:=i) (l:=l) (by omega)
     have kl:∀c,0<c→c<n→(c-1)/2=i→ky (l.getD (CS ky n i l) 0)≤ky (l.getD c 0):=fun c h0 hc hp=>HQ (by omega) h0 hc hp
     generalize CS ky n i l=j at kr kn kl ⊢
     by_cases c1:ky (l.getD j 0)<ky (l.getD i 0)
     · rw [if_pos c1]
       have g:∀k,(Ax l i j).getD k 0=if k=j then l.getD i 0 else if k=i then l.getD j 0 else l.getD k 0:=fun k=>Er (by omega) (by omega)
       have ji:i<j:=by omega
       have jp:(j-1)/2=i:=by omega
       obtain ⟨a1, a2, a3⟩ := Eo (lo := lo) (n := n) f j (Ax l i j) (by omega) (by omega) (by rw [xi]; exact hl) ⟨by
        intro c h0 hc hp hne
        rw[g,g]
        by_cases e1:c=j
        · subst e1
          rw[if_neg (by omega),if_pos jp,if_pos rfl];omega
        · rw [if_neg hne, if_neg e1]
          by_cases e2:(c-1)/2=i
          · rw[if_pos e2,if_neg (by omega)];exact kl c h0 hc e2
          · rw[if_neg e2]
            by_cases e3:c=i
            · subst e3
              rw[if_pos rfl]
              exact hx.2 j (by omega) kn jp h0 hp
            · rw[if_neg e3];exact hx.1 c h0 hc hp e2,by
        intro c h0 hc hp hj0 hlp
        rw[g,g,if_neg (by omega),if_pos jp,if_neg (by omega),if_neg (by omega)]
        have:=hx.1 c h0 hc (by omega) (by omega)
        rwa [hp]at this⟩
       refine⟨a1,a2.trans (yc (by omega) (by omega)),fun k hk=> ?_⟩
       rw[a3 k hk,g,if_neg (by omega),if_neg (by omega)]
     · rw[if_neg c1]
       refine⟨fun c h0 hc hp=> ?_,Rf _,fun _ _=>rfl⟩
       by_cases e:(c-1)/2=i
       · have:=kl c h0 hc e
         rw[e];omega
       · exact hx.1 c h0 hc hp e
theorem Aw {n:Nat}:∀(f i:Nat) (l:List Nat),(sink ky n f i l).length=l.length
 |0,_,_=>rfl
 | f + 1, i, l => by
   rw[sink]
   split
   · rfl
   · split
     · rw[Aw f,xi]
     · rfl
theorem DF {n:Nat}:∀{f i:Nat} {l:List Nat},n≤l.length→(sink ky n f i l).Perm l
 |0,_,_,_=>Rf _
 | f + 1, i, l, hl => by
   rw[sink]
   split
   · exact Rf _
   · rename_i c
     obtain⟨kr,kn⟩:=BA (ky:=ky) (n:=n) (i:=i) (l:=l) (by omega)
     split
     · exact(DF (by rw[xi];exact hl)).trans (yc (by omega) (by omega))
     · exact Rf _
def PX (n j:Nat) (l:List Nat):Prop:=(∀c,0<c→c<n→c≠j→ky (l.getD ((c-1)/2) 0)≤ky (l.getD c 0))∧
 (∀c,0<c→c<n→(c-1)/2=j→0<j→ky (l.getD ((j-1)/2) 0)≤ky (l.getD c 0))
theorem Hh {n : Nat} : ∀ (f j : Nat) (l : List Nat), j ≤ f → j < n → n ≤ l.length → PX (ky := ky) n j l → FZ ky 0 n (Cy ky f j l) ∧ (Cy ky f j l).Perm l
 |0,j,l,hf,hj,hl,hx=>⟨fun c h0 hc _=>hx.1 c h0 hc (by omega),Rf _⟩
 | f + 1, j, l, hf, hj, hl, hx => by
   rw[Cy]
   by_cases c0:j=0
   · rw[if_pos c0];exact⟨fun c h0 hc _=>hx.1 c h0 hc (by omega),Rf _⟩
   · rw [if_neg c0]
     by_cases c1:ky (l.getD j 0)<ky (l.getD ((j-1)/2) 0)
     · rw [if_pos c1]
       obtain⟨p,hp⟩:∃p,p=(j-1)/2:=⟨_,rfl⟩
       rw[←hp]at c1 ⊢
       have g:∀k,(Ax l p j).getD k 0=if k=j then l.getD p 0 else if k=p then l.getD j 0 else l.getD k 0:=fun k=>Er (by omega) (by omega)
       obtain⟨a1,a2⟩:=Hh (n:=n) f p (Ax l p j) (by omega) (by omega) (by rw[xi];exact hl) ⟨by
        intro c h0 hc hne
        rw[g,g]
        by_cases e1:c=j
        · subst e1
          rw[if_pos rfl,←hp,if_neg (by omega),if_pos rfl];omega
        · rw[if_neg e1,if_neg hne]
          have h1:=hx.1 c h0 hc e1
          by_cases e2:(c-1)/2=j
          · rw[if_pos e2]
            have:=hx.2 c h0 hc e2 (by omega)
            rwa [←hp]at this
          · rw[if_neg e2]
            by_cases e3:(c-1)/2=p
            · rw[if_pos e3];rw[e3]at h1;omega
            · rw[if_neg e3];exact h1,by
        intro c h0 hc hcp hp0
        rw[g,g,if_neg (by omega),if_neg (by omega)]
        have h1:=hx.1 p (by omega) (by omega) (by omega)
        by_cases e1:c=j
        · rw[if_pos e1];exact h1
        · rw[if_neg e1,if_neg (by omega)]
          have:=hx.1 c h0 hc e1
          rw[hcp]at this;omega⟩
       exact⟨a1,a2.trans (yc (by omega) (by omega))⟩
     · rw[if_neg c1]
       refine⟨fun c h0 hc _=> ?_,Rf _⟩
       by_cases e:c=j
       · subst e;omega
       · exact hx.1 c h0 hc e
theorem FG:∀(f j:Nat) (l:List Nat),(Cy ky f j l).length=l.length
 |0,_,_=>rfl
 | f + 1, j, l => by
   rw[Cy]
   split
   · rfl
   · split
     · rw[FG f,xi]
     · rfl
theorem IW {n:Nat} {l:List Nat} (h:FZ ky 0 n l):∀k,k<n→ky (l.getD 0 0)≤ky (l.getD k 0):=by
 intro k
 induction k using Nat.strongRecOn with
 | ind k ih =>
   intro hk
   by_cases c:k=0
   · subst c;exact Rg _
   · have h1:=ih ((k-1)/2) (by omega) (by omega)
     have h2:=h k (by omega) hk (by omega)
     omega
def yK (n:Nat):Nat→List Nat→List Nat
 |0,l=>l
 |i+1,l=>yK n i (sink ky n n i l)
theorem E9 {n:Nat}:∀(i:Nat) (l:List Nat),n≤l.length→FZ ky i n l→FZ ky 0 n (yK (ky:=ky) n i l)∧(yK (ky:=ky) n i l).Perm l
 |0,l,hl,h=>⟨h,Rf _⟩
 | i + 1, l, hl, h => by
   obtain⟨a1,a2,a3⟩:=Eo (ky:=ky) (lo:=i) (n:=n) n i l (by omega) (uv _) hl ⟨fun c h0 hc hp hne=>h c h0 hc (by omega),fun c h0 hc hp h1 h2=>by omega⟩
   obtain⟨b1,b2⟩:=E9 i (sink ky n n i l) (by rw[Aw];exact hl) a1
   exact⟨b1,b2.trans a2⟩
end
theorem dt {p:Prop} [Decidable p] (h:p):decide p=true:=QL h
theorem df {p:Prop} [Decidable p] (h:¬p):decide p=false:=QJ h
theorem PA {a b:Int} (h:a=b):(a==b)=true:=by simp [h]
theorem Pz {a b:Int} (h:¬a=b):(a==b)=false:=by simp [h]
theorem PF {a b:Int} (h:¬a=b):(a !=b)=true:=by simp [h]
theorem PD {a b:Int} (h:a=b):(a !=b)=false:=by simp [h]
theorem wi {n:Int} (h: -9223372036854775808≤n∧n<9223372036854775808):IntKind.wrap .i64 n=n:=s8 h.1 (by omega)
theorem wb {n:Int} (h:0≤n∧n<256):IntKind.wrap .u8 n=n:=by
 simp [IntKind.wrap,IntKind.bits,IntKind.signed];omega
theorem NF {i:Int} {n:Nat} (h:0≤i∧i<n):cG (.int .i64 i) n=some i.toNat:=by
 simp [cG,nh,h]
def at_:Nat→aF→aF
 |0,.seq a _=>a
 |0,c=>c
 |n+1,.seq _ b=>at_ n b
 |_+1,c=>c
def KX:Nat→aF→aF
 |0,c=>c
 |n+1,.seq _ b=>KX n b
 |_+1,c=>c
theorem F6 (a b:aF):at_ 0 (.seq a b)=a:=rfl
theorem HA (n:Nat) (a b:aF):at_ (n+1) (.seq a b)=at_ n b:=rfl
theorem Nv (c:aF):KX 0 c=c:=rfl
theorem Nu (n:Nat) (a b:aF):KX (n+1) (.seq a b)=KX n b:=rfl
theorem Ac {h:H} {id i:Nat} (e:¬i=id):(h.del id).get i=h.get i:=by rw[H.dJ,if_neg e]
theorem Aq (h:H):h.dG.next=h.next:=ui rfl rfl
theorem Ae (h:H):h.dG.floor=h.next:=ui rfl rfl
theorem Ag (h:H) (i:Nat):h.dG.get i=h.get i:=ui rfl rfl
theorem D8 (h:H) (i:Nat):(h.del i).next=h.next:=ui rfl rfl
theorem DX (h:H) (i:Nat):(h.del i).floor=h.floor:=ui rfl rfl
theorem u9 {h:H} {cs:List AV} {i:Nat} (e:i=h.next):(h.alloc cs).get i=some cs:=by rw[H.aV,if_pos e]
theorem u5 {h:H} {cs:List AV} {i:Nat} (e:¬i=h.next):(h.alloc cs).get i=h.get i:=by rw[H.aV,if_neg e]
theorem vi {h:H} {cs:List AV} {id i:Nat} (e:i=id):(h.set id cs).get i=(h.get i).map fun _=>cs:=by rw[H.dd,if_pos e,e]
theorem uV {h:H} {cs:List AV} {id i:Nat} (e:¬i=id):(h.set id cs).get i=h.get i:=by rw[H.dd,if_neg e]
def wC {α:Type} (b:Bool) (x:α):Option α:=if b then some x else none
theorem GL {α:Type} (x:α):wC true x=some x:=rfl
theorem Jy (h:H) (id off n:Nat) (v cs:List AV):tD h id off n v (some cs)=wC (decide (h.floor≤id)&&(decide (v.length=n)&&(decide (off+n≤cs.length)&&AV.aB v))) (h.set id (setFrom cs off v)):=by
 simp only[tD,uo,wC]
 by_cases c:h.floor≤id∧v.length=n∧off+n≤cs.length∧AV.aB v=true
 · rw[if_pos c];obtain⟨c1,c2,c3,c4⟩:=c;simp [c1,c2,c3,c4]
 · rw[if_neg c,if_neg];simpa using c
theorem JQ (n:Nat) (cs:List AV) (off:Nat):gE true n cs off=wC (decide (off+n≤cs.length)) (.agg ((cs.drop off).take n)):=by
 simp only[gE,wC,if_true,decide_eq_true_eq]
theorem IH (z:List AV):dH z []=some z:=rfl
def EX (r:List (Nat×Nat×AV)) (p:Option (List AV)):Option (List AV):=p.bind fun z=>dH z r
theorem GV (r:List (Nat×Nat×AV)) (z:List AV):EX r (some z)=dH z r:=rfl
theorem IG (z:List AV) (o n:Nat) (v:AV) (r:List (Nat×Nat×AV)):dH z ((o,n,v)::r)=EX r (wC (decide (v.cells.length=n)&&(decide (o+n≤z.length)&&AV.aB v.cells)) (setFrom z o v.cells)):=by
 simp only[dH,wC]
 by_cases c:v.cells.length=n∧o+n≤z.length∧AV.aB v.cells=true
 · rw[if_pos c];obtain⟨c1,c2,c3⟩:=c;simp [c1,c2,c3,EX]
 · rw[if_neg c,if_neg]; · rfl
   simpa using c
def EC (p:Option (List AV)) (f:Nat→AV):Option (List AV×(Nat→AV)):=p.bind fun cs=>some (cs,f)
theorem It (cs:List AV) (f:Nat→AV):EC (some cs) f=some (cs,f):=rfl
theorem C4 (e:Env) (z:List AV):aX e (.alloc z)=EC (wC (AV.aB z) z) (fun i=>.aC i 0):=by
 simp only[aX,wC];split<;>rfl
theorem GI (e:Env) (n:Nat) (x:X):aX e (.box n x)=EC (wC (decide ((x.ev e).cells.length=n)&&AV.aB (x.ev e).cells) (x.ev e).cells) (fun i=>.aC i 0):=by
 simp only[aX,wC]
 by_cases c:(x.ev e).cells.length=n∧AV.aB (x.ev e).cells=true
 · rw[if_pos c];simp [c,EC]
 · rw[if_neg c,if_neg]; · rfl
   simpa using c
theorem BI (e:Env) (sz len:Nat) (z:List AV) (ps:List (Nat×X)):aX e (.cw sz len z ps)=EC (EX (ps.map fun p=>(p.1* sz,sz,p.2.ev e)) (wC (decide (z.length=sz)&&(decide (0<sz)&&AV.aB z)) (dx len z))) (fun i=>.aD i 0 len sz):=by
 simp only[aX,wC]
 by_cases c:z.length=sz∧0<sz∧AV.aB z=true
 · rw[if_pos c];simp [c,EC,EX]
 · rw[if_neg c,if_neg]; · rfl
   simpa using c
theorem Jn (z:List AV):dx 0 z=[]:=rfl
theorem Jm (n:Nat) (z:List AV):dx (n+1) z=z++dx n z:=rfl
def M7 (vE:List Nat) (e:Env) (h:H) (b:Bool):dk:=if b then some (.normal,ax e vE,h)else none
theorem IU (vE:List Nat) (e:Env) (h:H):M7 vE e h true=some (.normal,ax e vE,h):=rfl
def PB (c:ae) (ops:List aj) (fl:List (Nat×List Nat)) (vE:List Nat) (p:Option (Env×H×List H)):dk:=p.bind fun q=>M7 vE q.1 q.2.1 (aY c ops q.1 q.2.2 fl)
theorem Kz (c:ae) (ops:List aj) (fl:List (Nat×List Nat)) (vE:List Nat) (e:Env) (h:H) (gs:List H):PB c ops fl vE (some (e,h,gs))=M7 vE e h (aY c ops e gs fl):=rfl
theorem GG (c:ae) (l:bE) (ord:List Nat) (ops:List aj) (x:Nat×List Nat) (fl:List (Nat×List Nat)) (vE:List Nat) (e:Env) (h:H):aK c l (.ir ord ops (x::fl) vE) e h=PB c ops (x::fl) vE (aM c ops e h):=by
 rw[aK];rfl
theorem KW (c:ae) (ops:List aj) (e:Env) (gs:List H):aY c ops e gs []=true:=rfl
def Pb (c:ae) (ops:List aj) (e:Env) (gs:List H) (i:Nat) (ks:List Nat):Bool:=ks.all (bC c ops e gs i)
theorem KV (c:ae) (ops:List aj) (e:Env) (gs:List H) (i:Nat) (ks:List Nat) (r:List (Nat×List Nat)):aY c ops e gs ((i,ks)::r)=(Pb c ops e gs i ks&&aY c ops e gs r):=rfl
theorem KT (c:ae) (ops:List aj) (e:Env) (gs:List H) (i:Nat):Pb c ops e gs i []=true:=rfl
def Nr (c : ae) (e : Env) (o : Option aj) (g : Option H) : Bool := match o, g with
 | some o, some g =>
   if o.op.aH then
    match o.dst.map (look e)with
    |some (.bJ [])=>true
    | some v => (match v.id?, aX e o.op with
      |some id,some b=>(match g.get id with|some cs=>AV.fE cs b.1|none=>false)
      |_,_=>false)
    |none=>false
   else match o.dst.map (look e)with
    |some v=>(match ai c o e g with|some (u,_)=>AV.beq u v|none=>false)
    |none=>false
 |_,_=>false
theorem KS (c:ae) (ops:List aj) (e:Env) (gs:List H) (i k:Nat) (r:List Nat):Pb c ops e gs i (k::r)=(Nr c e (ops[i]?) (gs[k]?)&&Pb c ops e gs i r):=by
 unfold Pb
 rw[List.all_cons]
 congr 1
def Pw (v:AV) (p:Option (AV×H)):Bool:=match p with|some (u,_)=>AV.beq u v|none=>false
theorem KU (v u:AV) (h:H):Pw v (some (u,h))=AV.beq u v:=rfl
def Nz (b:Bool) (x y:Bool):Bool:=if b then x else y
theorem KQ (x y:Bool):Nz false x y=y:=rfl
def CX (c:ae) (e:Env) (o:Option aj) (g:Option H):Bool:=Nr c e o g
theorem KP (c:ae) (e:Env) (d:Nat) (op:bR) (g:H):Nr c e (some ⟨some d,op,none⟩) (some g)=Nz op.aH (CX c e (some ⟨some d,op,none⟩) (some g)) (Pw (look e d) (ah c e g op)):=by
 unfold CX Nr Nz
 dsimp only
 cases op.aH<;>rfl
theorem KO (c:ae) (e:Env) (d:Nat) (op:bR) (k:Nat) (w:Bool) (g:H):Nr c e (some ⟨some d,op,some (k,w)⟩) (some g)=Nz op.aH (CX c e (some ⟨some d,op,some (k,w)⟩) (some g)) (Pw (look e d) (kE w c e g op (look e k))):=by
 unfold CX Nr Nz
 dsimp only
 cases op.aH with
 |true=>rfl
 |false=>rw[mo];rfl
mutual
theorem beq_refl:∀a:AV,AV.beq a a=true
 | .bot=>rfl
 | .bool b=>by simp [AV.beq]
 | .int k n=>by simp [AV.beq]
 | .str s=>Bv s
 | .b9=>rfl
 | .aC i o=>by simp [AV.beq]
 | .aJ c o=>by simp [AV.beq,wy c]
 | .aO=>rfl
 | .aD i o l z=>by simp [AV.beq]
 | .aU t c o l z=>by simp [AV.beq,wy c]
 | .fn f a b=>by simp [AV.beq,wy a,wy b]
 | .eE=>rfl
 | .iface t v=>by simp [AV.beq,beq_refl v]
 | .eF=>rfl
 | .agg c=>by simp [AV.beq,wy c]
 | .bJ c=>by simp [AV.beq,wy c]
theorem wy:∀l:List AV,AV.fE l l=true
 |[]=>rfl
 |a::l=>by simp [AV.fE,beq_refl a,wy l]
end
theorem KR (x y:Bool):Nz true x y=x:=rfl
def NI (c:Option (List AV)) (d:List AV):Bool:=match c with|some cs=>AV.fE cs d|none=>false
theorem Kx (c d:List AV):NI (some c) d=AV.fE c d:=rfl
def Ep (v : AV) (b : Option (List AV × (Nat → AV))) (g : H) : Bool := match v with
 | .bJ []=>true
 | v => match v.id?, b with
   |some id,some b=>NI (g.get id) b.1
   |_,_=>false
theorem Jx (b:Option (List AV×(Nat→AV))) (g:H):Ep (.bJ []) b g=true:=rfl
theorem Jw (i o:Nat) (cs:List AV) (f:Nat→AV) (g:H):Ep (.aC i o) (some (cs,f)) g=NI (g.get i) cs:=rfl
theorem Jv (i o l z:Nat) (cs:List AV) (f:Nat→AV) (g:H):Ep (.aD i o l z) (some (cs,f)) g=NI (g.get i) cs:=rfl
theorem BC {c : ae} {e : Env} {d : Nat} {op : bR} {gd : Option (Nat × Bool)} {g : H} (hb : op.aH = true) : CX c e (some ⟨some d, op, gd⟩) (some g) = Ep (look e d) (aX e op) g := by
 unfold CX Nr
 dsimp only
 rw[hb,if_pos rfl]
 show (match some (look e d) with
  |some (.bJ [])=>true
  | some v => (match v.id?, aX e op with
    |some id,some b=>(match g.get id with|some cs=>AV.fE cs b.1|none=>false)
    |_,_=>false)
  |none=>false)=_
 generalize look e d=v
 unfold Ep NI
 cases v with
 |bJ vs=>cases vs<;>rfl
 |_=>cases aX e op<;>rfl
theorem CF (c:ae) (e:Env) (d:Nat) (z:List AV) (gd:Option (Nat×Bool)) (g:H):CX c e (some ⟨some d,.alloc z,gd⟩) (some g)=Ep (look e d) (aX e (.alloc z)) g:=BC rfl
theorem FK (c:ae) (e:Env) (d n:Nat) (x:X) (gd:Option (Nat×Bool)) (g:H):CX c e (some ⟨some d,.box n x,gd⟩) (some g)=Ep (look e d) (aX e (.box n x)) g:=BC rfl
theorem Bm (c:ae) (e:Env) (d n m:Nat) (z:List AV) (ps:List (Nat×X)) (gd:Option (Nat×Bool)) (g:H):CX c e (some ⟨some d,.cw n m z ps,gd⟩) (some g)=Ep (look e d) (aX e (.cw n m z ps)) g:=BC rfl
theorem DG (c:ae) (e:Env) (d n m:Nat) (z:List AV) (x y:X) (gd:Option (Nat×Bool)) (g:H):CX c e (some ⟨some d,.iw n m z x y,gd⟩) (some g)=Ep (look e d) (aX e (.iw n m z x y)) g:=BC rfl
theorem Ey (b:Bool):AV.beq (.bool b) (.bool b)=true:=by simp [AV.beq]
theorem EB:AV.beq (.bJ []) (.bJ [])=true:=rfl
theorem Ez:AV.beq .aO .aO=true:=rfl
theorem CZ:AV.beq .b9 .b9=true:=rfl
theorem IZ (sz id off len:Nat) (i:AV):fB sz (.aD id off len sz) i=tN id off sz (cG i len):=by simp [fB,tN]
theorem IY (t:Bool) (cells:List AV) (sz off len:Nat) (i:AV):fB sz (.aU t cells off len sz) i=tO cells off sz (cG i len):=by simp [fB,tO]
def yA (n:Nat) (z:List AV):List AV:=dx n z
def KF (sz bytes:Nat) (zero:List AV) (l c:AV):Option (List AV×(Nat→AV)):=
 match l,c with
 | .int .i64 l,.int .i64 c=>EC (wC (decide (0≤l)&&(decide (l≤c)&&(decide (c≤9223372036854775807)&&(decide ((bytes:Int)* c≤281474976710656)&&(decide (zero.length=sz)&&(decide (0<sz)&&AV.aB zero)))))) (yA c.toNat zero)) (fun i=>.aD i 0 l.toNat sz)
 |_,_=>none
theorem D7 (sz bytes:Nat) (zero:List AV) (l c:Int):KF sz bytes zero (.int .i64 l) (.int .i64 c)=EC (wC (decide (0≤l)&&(decide (l≤c)&&(decide (c≤9223372036854775807)&&(decide ((bytes:Int)* c≤281474976710656)&&(decide (zero.length=sz)&&(decide (0<sz)&&AV.aB zero)))))) (yA c.toNat zero)) (fun i=>.aD i 0 l.toNat sz):=rfl
theorem ED (e : Env) (sz bytes : Nat) (zero : List AV) (l c : X) : aX e (.iw sz bytes zero l c) = KF sz bytes zero (l.ev e) (c.ev e) := by
 simp only[aX]
 cases l.ev e with
 | int k l => cases k <;> cases c.ev e with
   | int k2 c => cases k2 <;> first
     |rfl
     | (simp only [D7, wC]
        by_cases q:0≤l∧l≤c∧c≤9223372036854775807∧(bytes:Int)* c≤281474976710656∧zero.length=sz∧0<sz∧AV.aB zero=true
        · rw[if_pos q];obtain⟨q1,q2,q3,q4,q5,q6,q7⟩:=q
          rw[if_pos]
          · rfl
          · simp [q1,q2,q3,q4,q5,q6,q7]
        · rw[if_neg q,if_neg]
          · rfl
          · simpa using q)
   |_=>rfl
 |_=>cases c.ev e<;>rfl
theorem yE (i o l z:Nat):iG false (.aD i o l z)=some (.int .i64 l):=rfl
theorem DP:iG false .aO=some (.int .i64 0):=rfl
theorem F3 (t:Bool) (c:List AV) (o l z:Nat):iG false (.aU t c o l z)=some (.int .i64 l):=rfl
theorem vX (s:ByteArray):iG true (.str s)=some (.int .i64 s.size):=rfl
theorem JG (a b:Nat):((a:Int)+(b:Int)).toNat=a+b:=by omega
theorem Gy (a:Nat):((a:Int)).toNat=a:=by omega
def wO (s:ByteArray) (i:Nat):Nat:=((s[i]?).map (·.toNat)).getD 0
theorem zt (s:ByteArray) (i:Nat):wO s i<256:=by
 unfold wO
 cases s[i]? with
 |none=>simp
 |some b=>simp;exact b.toNat_lt
theorem yq {s:ByteArray} {i:Int} (h:0≤i∧i<s.size):lG (.str s) (.int .i64 i)=some (.int .u8 (wO s i.toNat:Nat)):=by
 have hi:i.toNat<s.size:=by omega
 simp [lG,NF h,wO,hi]
def AU {α:Type} (b:Bool) (x y:Option α):Option α:=if b then x else y
theorem Jq {α:Type} (x y:Option α):AU true x y=x:=rfl
theorem Jp {α:Type} (x y:Option α):AU false x y=y:=rfl
def Nq (n o k:Nat) (p:Option (List AV)):Option (Nat×List AV):=p.bind fun cs=>wC (decide (o+k* n≤cs.length)) (k,(cs.drop o).take (k* n))
theorem Ju (n o k:Nat) (cs:List AV):Nq n o k (some cs)=wC (decide (o+k* n≤cs.length)) (k,(cs.drop o).take (k* n)):=rfl
theorem KM (h:H) (n p o k:Nat):aR h n (.aD p o k n)=Nq n o k (h.get p):=by
 simp only[aR,if_true,Nq]
 cases h.get p with
 |none=>rfl
 |some cs=>simp only[uo,wC,decide_eq_true_eq]
theorem KK (h:H) (t:Bool) (n o k:Nat) (cs:List AV):aR h n (.aU t cs o k n)=wC (decide (o+k* n≤cs.length)) (k,(cs.drop o).take (k* n)):=by
 simp only[aR,if_true,wC,decide_eq_true_eq]
theorem KL (h:H) (n:Nat):aR h n .aO=some (0,[]):=ui rfl rfl
theorem KN (h:H) (s:ByteArray):aR h 1 (.str s)=some (s.size,s.data.toList.map fun b=>.int .u8 b.toNat):=ui rfl rfl
def NG (h:H) (n z:Nat) (a:AV) (p:Option (Nat×List AV)):Option (AV×H):=p.bind fun r=>dC h n z a r.1 r.2
theorem Iq (h:H) (n z:Nat) (a:AV) (m:Nat) (bs:List AV):NG h n z a (some (m,bs))=dC h n z a m bs:=rfl
theorem Kw (h:H) (n z:Nat) (a b:AV):j9 h n z a b=NG h n z a (aR h n b):=ui rfl rfl
def Pj (h:H) (n z p o k m:Nat) (bs:List AV) (q:Option (List AV)):Option (AV×H):=q.bind fun cs=>
 AU (decide (o+(k+m)* n≤cs.length)) (some (.aD p o (k+m) n,h.set p (setFrom cs (o+k* n) bs))) (AU (decide (o+k* n=cs.length)&&roomy z (k+m)) (some (.aD h.next 0 (k+m) n,(h.del p).alloc (cs.drop o++bs))) none)
theorem Ks (h:H) (n z p o k m:Nat) (bs cs:List AV):Pj h n z p o k m bs (some cs)=AU (decide (o+(k+m)* n≤cs.length)) (some (.aD p o (k+m) n,h.set p (setFrom cs (o+k* n) bs))) (AU (decide (o+k* n=cs.length)&&roomy z (k+m)) (some (.aD h.next 0 (k+m) n,(h.del p).alloc (cs.drop o++bs))) none):=rfl
theorem Kv (h : H) (n z p o k m : Nat) (bs : List AV) : dC h n z (.aD p o k n) m bs = AU (decide (m = 0)) (some (.aD p o k n, h)) (AU (AV.aB bs && (decide (0 < n) && decide (h.floor ≤ p))) (Pj h n z p o k m bs (h.get p)) none) := by
 unfold dC AU
 by_cases c:m=0
 · simp [c]
 · rw [if_neg c]
   simp only[decide_eq_true_eq,if_neg c]
   by_cases c1:AV.aB bs=false∨n=0
   · rw[if_pos c1,if_neg]
     rcases c1 with c1|c1
     · simp [c1]
     · simp [c1]
   · rw[if_neg c1]
     have q1:AV.aB bs=true:=by cases q:AV.aB bs with|true=>rfl|false=>exact absurd (.inl q) c1
     by_cases c2:h.floor≤p
     · have qq:(AV.aB bs&&(decide (0<n)&&decide (h.floor≤p)))=true:=by simp [q1,c2];omega
       simp only[true_and,if_pos c2,qq,if_true,Pj,AU]
       cases h.get p with
       |none=>rfl
       |some cs=>simp only[uo,decide_eq_true_eq,uw]
     · have qq:(AV.aB bs&&(decide (0<n)&&decide (h.floor≤p)))=false:=by simp [c2]
       simp only[true_and,if_neg c2,qq];rfl
theorem Ku (h:H) (n z m:Nat) (bs:List AV):dC h n z .aO m bs=AU (decide (m=0)) (some (.aO,h)) (AU (AV.aB bs&&(decide (0<n)&&roomy z m)) (some (.aD h.next 0 m n,h.alloc bs)) none):=by
 unfold dC AU
 by_cases c:m=0
 · simp [c]
 · rw[if_neg c]
   simp only[decide_eq_true_eq,if_neg c]
   by_cases c1:AV.aB bs=false∨n=0
   · rw[if_pos c1,if_neg]
     rcases c1 with c1|c1
     · simp [c1]
     · simp [c1]
   · rw[if_neg c1]
     have q1:AV.aB bs=true:=by cases q:AV.aB bs with|true=>rfl|false=>exact absurd (.inl q) c1
     have q2:0<n:=by omega
     simp [q1,q2]
theorem ze {b n:Nat} (h:1≤b∧(n+n/4+512)* b≤281474976710656):roomy b n=true:=by simp only[roomy,h.1,h.2,and_self,decide_true]
theorem KJ {h:H} {n p o k:Nat} {m:Int} {cs:List AV} (hg:h.get p=some cs) (hn:0<n) (hk:o+k* n≤cs.length) (hm:0≤m∧m.toNat≤(cs.length-o)/n):rz h n (.aD p o k n) none (some (.int .i64 m)) none=some (.aD p o m.toNat n):=by
 have h1:k≤(cs.length-o)/n:=by rw[Nat.le_div_iff_mul_le hn];omega
 simp only[rz,hn,and_self,if_true,hg,uo,aA]
 rw[if_pos ⟨by omega,h1⟩]
 have h3:jQ (.int .i64 m) ((cs.length-o)/n)=some m.toNat:=by
  simp only[jQ,nh,uo]
  rw[if_pos]
  omega
 simp [h3]
theorem IK {α:Type} {C:α→List AV} {n:Nat} (hC:∀x,(C x).length=n):∀{l:List α} {i f:Nat} {x:α},l[i]?=some x→f<n→(l.flatMap C)[i* n+f]?=(C x)[f]?
 |[],i,f,x,h,_=>by simp at h
 | y :: l, 0, f, x, h, hf => by
   obtain rfl:y=x:=by simpa using h
   rw[QM,Nat.zero_mul,uC,QQ (by rw[hC];exact hf)]
 | y :: l, i + 1, f, x, h, hf => by
   rw[QM,QR (by rw[hC,uN];omega),hC]
   rw[show(i+1)* n+f-n=i* n+f by rw[uN];omega]
   exact IK hC (by simpa using h) hf
theorem AF {α:Type} {C:α→List AV} {n:Nat} (hC:∀x,(C x).length=n):∀l:List α,(l.flatMap C).length=l.length* n
 |[]=>by simp
 |y::l=>by rw[QM,uR,hC,AF hC l,QG,uN];omega
theorem DY {α:Type} {C:α→List AV} {n:Nat} (hC:∀x,(C x).length=n):∀{l:List α} {i:Nat} {x:α},l[i]?=some x→((l.flatMap C).drop (i* n)).take n=C x
 |[],i,x,h=>by simp at h
 | y :: l, 0, x, h => by
   obtain rfl:y=x:=by simpa using h
   rw[QM,Nat.zero_mul,QZ,List.take_append_of_le_length (by rw[hC];omega),uM (by rw[hC];omega)]
 | y :: l, i + 1, x, h => by
   rw[QM,List.drop_append,List.drop_of_length_le (by rw[hC,uN];omega),List.nil_append,hC,show(i+1)* n-n=i* n by rw[uN];omega]
   exact DY hC (by simpa using h)
def xH (n:Nat) (h:H) (v:AV) (k:Nat) (cs:List AV):Prop:=aR h n v=some (k,cs)∧cs.length=k* n∧∀s,v≠.str s
theorem Rd.PG {h:H} {v:AV} {cs:List AV} (r:Rd h v cs):xH 1 h v cs.length cs:=⟨r.1,by omega,r.2⟩
theorem xH.len {n:Nat} {h:H} {v:AV} {k:Nat} {cs:List AV} (r:xH n h v k cs):iG false v=some (.int .i64 k):=by
 obtain⟨r,_,hs⟩:=r
 unfold aR at r
 split at r
 · obtain⟨h1,h2⟩:=uf (ud r);subst h1;rfl
 · exact absurd rfl (hs _)
 · split at r
   · simp only[uc]at r
     obtain⟨c,_,r⟩:=r
     split at r
     · obtain⟨h1,h2⟩:=uf (ud r);simp [iG,h1]
     · cases r
   · cases r
 · split at r
   · split at r
     · obtain⟨h1,h2⟩:=uf (ud r);simp [iG,h1]
     · cases r
   · cases r
 · cases r
theorem xH.mono {n:Nat} {h g:H} {v:AV} {k:Nat} {cs:List AV} (r:xH n h v k cs) (hg:∀id c,h.get id=some c→g.get id=some c):xH n g v k cs:=by
 obtain⟨r,hl,hs⟩:=r
 refine⟨?_,hl,hs⟩
 unfold aR at r ⊢
 split at r
 · exact r
 · exact r
 · split at r
   · rename_i q;simp only[if_pos q,uc]at r ⊢
     obtain⟨c,h1,r⟩:=r
     exact⟨c,hg _ _ h1,r⟩
   · cases r
 · exact r
 · cases r
theorem xH.at_ {n : Nat} {h : H} {v : AV} {k : Nat} {cs : List AV} (r : xH n h v k cs) : ∃ ad : Int → Nat → AV,
 (∀i:Int,0≤i∧i<k→fB n v (.int .i64 i)=some (ad i 0))∧
 (∀(i:Int) (f g:Nat),0≤i∧i<k→eQ g (ad i f)=some (ad i (f+g)))∧
 (∀(i:Int) (f:Nat) (g:H),0≤i∧i<k→je g (ad i f)=some (ad i f,g))∧
 (∀g:H,(∀id c,h.get id=some c→g.get id=some c)→(∀(i:Int) (f:Nat) (c:AV),0≤i∧i<k→cs[i.toNat* n+f]?=some c→bN false 1 (ad i f) g=some c)∧
   ∀i:Int,0≤i∧i<k→bN true n (ad i 0) g=some (.agg ((cs.drop (i.toNat* n)).take n))):=by
 obtain⟨r,hl,hs⟩:=r
 unfold aR at r
 split at r
 · obtain⟨h1,h2⟩:=uf (ud r);subst h1
   exact⟨fun _ _=>.bot,fun i hi=>by omega,fun i f g hi=>by omega,fun i f g hi=>by omega,fun g _=>⟨fun i f c hi=>by omega,fun i hi=>by omega⟩⟩
 · exact absurd rfl (hs _)
 · rename_i id off len s
   split at r
   · rename_i q
     subst q
     simp only[uc]at r
     obtain⟨d,hd,r⟩:=r
     split at r
     · rename_i hle
       obtain⟨h1,h2⟩:=uf (ud r)
       subst h1
       have bnd:∀i:Int,0≤i∧i<len→i.toNat* s+s≤len* s:=fun i hi=>by
        have:=uy s (show i.toNat+1≤len by omega);rw[uN]at this;omega
       refine⟨fun i f=>.aC id (off+i.toNat* s+f),fun i hi=>by simp [fB,NF hi],fun i f g _=>by simp [eQ];omega,fun i f g _=>rfl,fun g hg=>⟨fun i f c hi hc=> ?_,fun i hi=> ?_⟩⟩
       · simp only[bN,hg _ _ hd,uo,gE,uq,uS]
         rw[←h2,uQ]at hc
         split at hc
         · rw[uI]at hc;rw[uu];exact hc
         · cases hc
       · have:=bnd i hi
         simp only[bN,hg _ _ hd,uo,gE,if_true,Nat.add_zero]
         rw[if_pos (by omega),←h2,List.drop_take,List.take_take,List.drop_drop,Nat.min_eq_left (by omega)]
     · cases r
   · cases r
 · rename_i t cells off len s
   split at r
   · rename_i q
     subst q
     split at r
     · rename_i hle
       obtain⟨h1,h2⟩:=uf (ud r)
       subst h1
       have bnd:∀i:Int,0≤i∧i<len→i.toNat* s+s≤len* s:=fun i hi=>by
        have:=uy s (show i.toNat+1≤len by omega);rw[uN]at this;omega
       refine⟨fun i f=>.aJ cells (off+i.toNat* s+f),fun i hi=>by simp [fB,NF hi],fun i f g _=>by simp [eQ];omega,fun i f g _=>rfl,fun g hg=>⟨fun i f c hi hc=> ?_,fun i hi=> ?_⟩⟩
       · simp only[bN,gE,uq,uS]
         rw[←h2,uQ]at hc
         split at hc
         · rw[uI]at hc;rw[uu];exact hc
         · cases hc
       · have:=bnd i hi
         simp only[bN,gE,if_true,Nat.add_zero]
         rw[if_pos (by omega),←h2,List.drop_take,List.take_take,List.drop_drop,Nat.min_eq_left (by omega)]
     · cases r
   · cases r
 · cases r
def vG (n:Nat) (h:H) (v:AV) (k:Nat) (cs:List AV):Prop:=cs.length=k* n∧((v=.aO∧k=0)∨∃id,v=.aD id 0 k n∧h.get id=some cs∧h.floor≤id∧0<k)
theorem vG.nil {n:Nat} {h:H}:vG n h .aO 0 []:=⟨by simp,.inl ⟨rfl,rfl⟩⟩
theorem vG.mono {n:Nat} {h g:H} {v:AV} {k:Nat} {cs:List AV} (o:vG n h v k cs) (hf:g.floor=h.floor) (hg:∀i,v.id?=some i→g.get i=h.get i):vG n g v k cs:=by
 obtain⟨l,o⟩:=o
 refine⟨l, ?_⟩
 rcases o with o|⟨id,rfl,h1,h2,h3⟩
 · exact .inl o
 · exact .inr ⟨id,rfl,by rw[hg id rfl];exact h1,by rw[hf];exact h2,h3⟩
theorem vG.sc {n:Nat} {h:H} {v:AV} {k:Nat} {cs:List AV} (o:vG n h v k cs):v.sc=true:=by
 rcases o.2 with ⟨rfl,_⟩|⟨id,rfl,_⟩<;>rfl
theorem vG.lt {n:Nat} {h:H} {v:AV} {k:Nat} {cs:List AV} (o:vG n h v k cs) {i:Nat} (hi:v.id?=some i):h.floor≤i∧i<h.next:=by
 rcases o.2 with ⟨rfl,_⟩|⟨id,rfl,h1,h2⟩
 · cases hi
 · obtain rfl:=ud hi;exact⟨h2.1,h.lt _ _ h1⟩
theorem vG.rd {n:Nat} {h:H} {v:AV} {k:Nat} {cs:List AV} (o:vG n h v k cs):xH n h v k cs:=by
 obtain⟨l,o⟩:=o
 rcases o with ⟨rfl,rfl⟩|⟨id,rfl,h1,h2⟩
 · have:cs=[]:=Q2 (by omega)
   subst this
   exact⟨rfl,by simp,fun _=>by simp⟩
 · refine⟨?_,l,fun _=>by simp⟩
   simp only[aR,if_true,h1,uo,uC]
   rw[if_pos (by omega),QZ,uM (by omega)]
theorem vG.app {n:Nat} {h:H} {v:AV} {k:Nat} {cs:List AV} (o:vG n h v k cs) (hfn:h.floor≤h.next) {z m:Nat} (hm:0<m) (hn:0<n) (bs:List AV) (hb:bs.length=m* n) (hc:AV.aB bs=true) (hr:roomy z (k+m)=true):
 ∃v' h',dC h n z v m bs=some (v',h')∧vG n h' v' (k+m) (cs++bs)∧h'.floor=h.floor∧h.next≤h'.next∧(∀i,v.id?≠some i→i≠h.next→h'.get i=h.get i)∧v'.id?=some h.next:=by
 obtain⟨hl,o⟩:=o
 have hll:(cs++bs).length=(k+m)* n:=by rw[uR,hl,hb,uN]
 rcases o with ⟨rfl,rfl⟩|⟨id,rfl,hg,hf,_⟩
 · have:cs=[]:=Q2 (by omega)
   subst this
   refine⟨.aD h.next 0 m n,h.alloc bs, ?_,⟨hll,.inr ⟨h.next,by simp,by simp [H.aV],by simp;omega,by omega⟩⟩,by simp,by simp,fun i _ hi=>by rw[H.aV,if_neg hi],rfl⟩
   unfold dC
   rw[if_neg (by omega),if_neg (by simp [hc];omega)]
   rw[uC]at hr
   simp only[hr,if_true]
 · have hmn:0<m* n:=Nat.mul_pos hm hn
   have hnot:¬0+(k+m)* n≤cs.length:=by rw[hl,uN];omega
   refine⟨.aD h.next 0 (k+m) n,(h.del id).alloc (cs++bs), ?_,⟨hll,.inr ⟨h.next,by simp,by simp [H.aV], ?_,by omega⟩⟩,by simp,by simp,fun i h1 h2=> ?_,rfl⟩
   · unfold dC
     rw[if_neg (by omega),if_neg (by simp [hc];omega)]
     simp only[hf,and_self,if_true,hg,uo]
     rw[if_neg hnot,if_pos ⟨by omega,hr⟩]
     simp
   · have:=h.lt id cs hg;simp;omega
   · rw[H.aV,H.jc,if_neg h2,H.dJ,if_neg]
     intro e;subst e;exact h1 rfl
theorem vG.push {n:Nat} {h:H} {v:AV} {k:Nat} {cs:List AV} (o:vG n h v k cs) (hfn:h.floor≤h.next) {z m:Nat} (hm:0<m) (hn:0<n) (bs:List AV) (hb:bs.length=m* n) (hc:AV.aB bs=true) (hr:roomy z (k+m)=true):
 ∃v' h',j9 (h.alloc bs) n z v (.aD h.next 0 m n)=some (v',h')∧vG n h' v' (k+m) (cs++bs)∧h'.floor=h.floor∧h.next+1≤h'.next∧(∀i,v.id?≠some i→i<h.next→h'.get i=h.get i)∧v'.id?=some (h.next+1):=by
 have o1:vG n (h.alloc bs) v k cs:=o.mono (by simp) fun i q=>by rw[H.aV,if_neg];have:=o.lt q;omega
 obtain⟨v',h',p1,p2,p3,p4,p5,p6⟩:=o1.app (z:=z) (by simp;omega) hm hn bs hb hc hr
 refine⟨v',h', ?_,p2,by rw[p3];simp,by simpa using p4,fun i q1 q2=> ?_,by simpa using p6⟩
 · have src:aR (h.alloc bs) n (.aD h.next 0 m n)=some (m,bs):=by
    simp only[aR,if_true,H.aV,uo,uC]
    rw[if_pos (by omega),QZ,uM (by omega)]
   unfold j9;rw[src,uo];exact p1
 · rw[p5 i q1 (by simp;omega),H.aV,if_neg (by omega)]
def yD (n k:Nat) (cs:List AV):AV:=if k=0 then .aO else .aU false cs 0 k n
theorem Gu {n k:Nat} {h:H} {cs:List AV} (hl:cs.length=k* n):xH n h (yD n k cs) k cs:=by
 unfold yD
 by_cases hk:k=0
 · subst hk
   have:cs=[]:=Q2 (by omega)
   subst this
   exact⟨rfl,by simp,fun _=>by simp⟩
 · rw[if_neg hk]
   refine⟨?_,hl,fun _=>by simp⟩
   simp only[aR,if_true,uC]
   rw[if_pos (by omega),QZ,uM (by omega)]
theorem vG.zf {n:Nat} {h:H} {v:AV} {k:Nat} {l:List Int} {fl m:Nat} {t:Bool} (o:vG n h v k (ints l)) (hf:fl≤h.floor):snap h.get fl (m+2) t v=some (yD n k (ints l)):=by
 obtain⟨hl,o⟩:=o
 rw[pf]at hl
 rcases o with ⟨rfl,rfl⟩|⟨id,rfl,q,h2,hk⟩
 · rfl
 · unfold snap
   rw[if_neg (by omega),q,uo,if_pos (by rw[pf];omega)]
   rw[QZ,uM (by rw[pf];omega),wR]
   unfold yD
   rw[if_neg (by omega)];rfl
attribute [go_sem] List.map_cons List.map_nil Bool.and_true Bool.true_and Bool.and_self List.append_nil Option.map_some Option.map_none Bool.and_false Bool.false_and Bool.or_false Bool.or_true Bool.true_or Bool.false_or Bool.or_self bR.aN bR.aH Int.reduceAdd Int.reduceSub Int.reduceMul Int.reduceNeg Int.reduceToNat List.take_succ_cons List.take_zero List.drop_zero List.drop_succ_cons Int.cast_ofNat_Int Int.natCast_one Int.natCast_zero List.length_set
theorem vo:type_of% @dt∧type_of% @df∧type_of% @PA∧type_of% @Pz∧type_of% @PF∧type_of% @PD∧type_of% @wi∧type_of% @wb∧type_of% @vX∧type_of% @yq∧type_of% @JG∧type_of% @Gy∧type_of% @NF∧type_of% @u9∧type_of% @u5∧type_of% @vi∧type_of% @uV∧type_of% @H.iW∧type_of% @H.jM∧type_of% @H.kD∧type_of% @H.jd∧type_of% @Jy∧type_of% @GL∧type_of% @IH∧type_of% @IG∧type_of% @GV∧type_of% @BI∧type_of% @C4∧type_of% @GI∧type_of% @It∧type_of% @Jm∧type_of% @Jn∧type_of% @py∧type_of% @oL∧type_of% @qT∧type_of% @pJ∧type_of% @IZ∧type_of% @IY∧type_of% @r9∧type_of% @se∧type_of% @ED∧type_of% @D7∧type_of% @yE∧type_of% @DP∧type_of% @F3∧type_of% @GG∧type_of% @Kz∧type_of% @IU∧type_of% @KW∧type_of% @KV∧type_of% @KT∧type_of% @KS∧type_of% @KU∧type_of% @KQ∧type_of% @DT∧type_of% @Ey∧type_of% @EB∧type_of% @Ez∧type_of% @CZ∧type_of% @Bv∧type_of% @BG∧type_of% @EA∧type_of% @Ar∧type_of% @Eb∧type_of% @I9∧type_of% @DZ∧type_of% @Ei∧type_of% @Eh∧type_of% @KP∧type_of% @KO∧type_of% @tt∧type_of% @beq_refl∧type_of% @wy∧type_of% @KR∧type_of% @Kx∧type_of% @Jx∧type_of% @Jw∧type_of% @Jv∧type_of% @CF∧type_of% @FK∧type_of% @Bm∧type_of% @DG:=⟨@dt, @df, @PA, @Pz, @PF, @PD, @wi, @wb, @vX, @yq, @JG, @Gy, @NF, @u9, @u5, @vi, @uV, @H.iW, @H.jM, @H.kD, @H.jd, @Jy, @GL, @IH, @IG, @GV, @BI, @C4, @GI, @It, @Jm, @Jn, @py, @oL, @qT, @pJ, @IZ, @IY, @r9, @se, @ED, @D7, @yE, @DP, @F3, @GG, @Kz, @IU, @KW, @KV, @KT, @KS, @KU, @KQ, @DT, @Ey, @EB, @Ez, @CZ, @Bv, @BG, @EA, @Ar, @Eb, @I9, @DZ, @Ei, @Eh, @KP, @KO, @tt, @beq_refl, @wy, @KR, @Kx, @Jx, @Jw, @Jv, @CF, @FK, @Bm, @DG⟩
theorem Br:type_of% @Aq∧type_of% @Ag∧type_of% @Ae∧type_of% @D8∧type_of% @DX∧type_of% @Ac∧type_of% @JQ∧type_of% @Jq∧type_of% @Jp∧type_of% @Ju∧type_of% @KM∧type_of% @KK∧type_of% @KL∧type_of% @KN∧type_of% @Iq∧type_of% @Kw∧type_of% @Ks∧type_of% @Kv∧type_of% @Ku∧type_of% @ze∧type_of% @F6∧type_of% @HA∧type_of% @Nv∧type_of% @Nu:=⟨@Aq, @Ag, @Ae, @D8, @DX, @Ac, @JQ, @Jq, @Jp, @Ju, @KM, @KK, @KL, @KN, @Iq, @Kw, @Ks, @Kv, @Ku, @ze, @F6, @HA, @Nv, @Nu⟩
theorem wm:type_of% @H.jM∧type_of% @H.jd∧type_of% @D8∧type_of% @Aq∧type_of% @H.iW∧type_of% @H.kD∧type_of% @DX∧type_of% @Ae:=⟨@H.jM, @H.jd, @D8, @Aq, @H.iW, @H.kD, @DX, @Ae⟩
theorem Bs:type_of% @u9∧type_of% @u5∧type_of% @vi∧type_of% @uV∧type_of% @Ac∧type_of% @Ag:=⟨@u9, @u5, @vi, @uV, @Ac, @Ag⟩
end Ab
set_option maxRecDepth 100000
namespace Ab
open Go
def L8 (c:Nat):Nat:=if c%2=1 then(c/2)^^^3988292384 else c/2
def GN:Nat→Nat→Nat
 |0,c=>c
 |n+1,c=>GN n (L8 c)
def J3 (c b:Nat):Nat:=GN 8 (c^^^b)
def Iz (s:ByteArray):Nat→Nat→Nat→Nat
 |0,_,c=>c
 |n+1,i,c=>Iz s n (i+1) (J3 c (wO s i))
def O3 (a:Nat) (s:ByteArray):Nat:=4294967295-Iz s s.size 0 (4294967295-a)
def Ok (s:ByteArray):Nat:=O3 0 s
theorem FJ {a s:Nat} (hs:s≤64):oM .shr .i64 (a:Int) (s:Int)=some (.int .i64 ((a/2^s:Nat):Int)):=by
 unfold oM
 rw[if_neg (by omega)]
 simp only[IntKind.bits,Int.toNat_natCast,Nat.min_eq_left hs]
 rw[Int.fdiv_eq_ediv_of_nonneg _ (Int.pow_nonneg (by omega))]
 simp
theorem Ew {h:H} {v:AV} {k:Nat} {l:List Nat} (o:vG 1 h v k (xI l)):th h v (aR h 1 v)=some (.str (bytesOf l),h):=by
 rw[o.rd.1]
 simp only[th,uo,DR]
 rcases o.2 with ⟨rfl,_⟩|⟨id,rfl,_⟩<;>rfl
def xD (s:ByteArray) (i j:Nat):Nat→Nat→Nat
 |0,k=>k
 |f+1,k=>if k<258∧i+k<s.size∧wO s (i+k)=wO s (j+k)then xD s i j f (k+1)else k
def same (s:ByteArray) (i j:Nat):Nat:=xD s i j 258 0
def vC (s:ByteArray) (i:Nat):Nat→Nat×Nat→Nat×Nat
 |0,b=>b
 |j+1,b=>vC s i j (if b.1<same s i j then(same s i j,i-j)else b)
theorem FI (s:ByteArray) (i j:Nat):∀f k,xD s i j f k≤k+f
 |0,k=>by simp [xD]
 | f + 1, k => by
   unfold xD
   split
   · have:=FI s i j f (k+1);omega
   · omega
theorem Hi (s:ByteArray) (i j:Nat):same s i j≤258:=by have:=FI s i j 258 0;unfold same;omega
theorem Cz (s:ByteArray) (i j:Nat) (hi:i≤s.size):∀f k,i+k≤s.size→i+xD s i j f k≤s.size
 |0,k,h=>by simpa [xD]using h
 | f + 1, k, h => by
   unfold xD
   split
   · rename_i q;exact Cz s i j hi f (k+1) (by omega)
   · exact h
theorem DE (s:ByteArray) (i j:Nat) (hi:i≤s.size):i+same s i j≤s.size:=Cz s i j hi 258 0 (by omega)
theorem BH (s:ByteArray) (i:Nat) (hi:i≤s.size):∀(j:Nat) (b:Nat×Nat),i+b.1≤s.size→i+(vC s i j b).1≤s.size
 |0,b,h=>h
 | j + 1, b, h => by
   unfold vC
   refine BH s i hi j _ ?_
   split
   · exact DE s i j hi
   · exact h
structure Tok where
 lit:Int
 len:Int
 vD:Int
deriving DecidableEq
def JH (t:Tok):List Int:=[t.lit,t.len,t.vD]
def CY (t:Tok):List AV:=ints (JH t)
def KY (ts:List Tok):List Int:=ts.flatMap JH
def vB (ts:List Tok):List AV:=ts.flatMap CY
theorem CL (t:Tok):(CY t).length=3:=rfl
theorem zh (ts:List Tok):(vB ts).length=ts.length* 3:=AF CL ts
theorem zT:∀ts:List Tok,vB ts=ints (KY ts)
 |[]=>rfl
 | t :: ts => by
   have:=zT ts
   unfold vB KY at *
   rw[QM,QM,pd,this];rfl
theorem CM (ts:List Tok) (t:Tok):vB (ts++[t])=vB ts++CY t:=by simp [vB]
def vZ (s:ByteArray) (i:Nat):Tok×Nat:=
 if(vC s i i (0,0)).1<3 then(⟨wO s i,0,0⟩,i+1)else(⟨0,(vC s i i (0,0)).1,(vC s i i (0,0)).2⟩,i+(vC s i i (0,0)).1)
def yV (s:ByteArray):Nat→Nat→List Tok
 |0,_=>[]
 |f+1,i=>if i<s.size then(vZ s i).1::yV s f (vZ s i).2 else []
theorem FV (s:ByteArray) (i:Nat):i<(vZ s i).2:=by
 unfold vZ;split<;>simp<;>omega
theorem FU (s:ByteArray) (i:Nat) (hi:i<s.size):(vZ s i).2≤s.size:=by
 unfold vZ;split
 · exact hi
 · exact BH s i (by omega) i (0,0) (by show i+0≤_;omega)
def CO (ts:List Tok):AV:=yD 3 ts.length (vB ts)
def tokens (s:ByteArray):List Tok:=yV s s.size 0
def Ext (h g:H):Prop:=∀id c,h.get id=some c→g.get id=some c
theorem Ext.refl (h:H):Ext h h:=fun _ _ q=>q
theorem Ext.trans {a b c:H} (x:Ext a b) (y:Ext b c):Ext a c:=fun i d q=>y i d (x i d q)
theorem Ext.alloc {a h:H} (x:Ext a h) (cs:List AV):Ext a (h.alloc cs):=fun i d q=>by
 have:=h.lt _ _ (x i d q)
 rw[H.aV,if_neg (by omega)];exact x i d q
theorem Ext.set {a h:H} (x:Ext a h) {id:Nat} (hid:a.next≤id) (cs:List AV):Ext a (h.set id cs):=fun i d q=>by
 have:=a.lt _ _ q
 rw[H.dd,if_neg (by omega)];exact x i d q
theorem xH.Ny {h:H} {v:AV} {ts:List Tok} (r:xH 3 h v ts.length (vB ts)):∃ad:Int→Nat→AV,
 (∀i:Int,0≤i∧i<ts.length→fB 3 v (.int .i64 i)=some (ad i 0))∧
 (∀(i:Int) (f g:Nat),0≤i∧i<ts.length→eQ g (ad i f)=some (ad i (f+g)))∧
 ∀ g : H, Ext h g → ∀ (i : Nat) (t : Tok), ts[i]? = some t → bN false 1 (ad i 0) g = some (.int .i64 t.lit) ∧ bN false 1 (ad i 1) g = some (.int .i64 t.len) ∧ bN false 1 (ad i 2) g = some (.int .i64 t.vD) ∧
   bN true 3 (ad i 0) g=some (.agg [.int .i64 t.lit,.int .i64 t.len,.int .i64 t.vD]):=by
 obtain⟨ad,a1,a2,_,a3⟩:=r.at_
 refine⟨ad,a1,a2,fun g hg i t ht=> ?_⟩
 obtain⟨b1,b2⟩:=a3 g hg
 have hi:i<ts.length:=(um.1 ht).1
 have hI:(0:Int)≤(i:Int)∧(i:Int)<ts.length:=⟨by omega,by omega⟩
 have ti:((i:Int)).toNat=i:=by omega
 have q:∀f,f<3→(vB ts)[((i:Int)).toNat* 3+f]?=(CY t)[f]?:=fun f hf=>by rw[ti];exact IK CL ht hf
 refine⟨b1 i 0 _ hI (q 0 (by omega)),b1 i 1 _ hI (q 1 (by omega)),b1 i 2 _ hI (q 2 (by omega)), ?_⟩
 rw[b2 i hI,ti,vB,DY CL ht];rfl
def vF (size:Int) (t:Tok):Option Int:=
 if t.len=0 then(if t.lit<0∨255<t.lit∨t.vD≠0 then none else some (size+1))
 else if t.len<3∨258<t.len∨t.vD<1∨32768<t.vD∨size<t.vD∨t.lit≠0 then none else some (size+t.len)
def vk : Int → List Tok → Bool
 |_,[]=>true
 | s, t :: r => match vF s t with
   |none=>false
   |some s'=>if 8192<s' then false else vk s' r
theorem Rd.wF {h:H} {v:AV} {l:List Int} (r:Rd h v (ints l)):∃ad:Int→AV,(∀i:Int,0≤i∧i<l.length→fB 1 v (.int .i64 i)=some (ad i))∧
 ∀g:H,Ext h g→∀(i:Nat) (n:Int),l[i]?=some n→bN false 1 (ad i) g=some (.int .i64 n):=by
 have r2:=r.PG
 rw[pf]at r2
 obtain⟨ad,a1,_,_,a3⟩:=r2.at_
 refine⟨fun i=>ad i 0,a1,fun g hg i n hn=> ?_⟩
 have hi:i<l.length:=(um.1 hn).1
 refine(a3 g hg).1 i 0 _ ⟨by omega,by omega⟩ ?_
 rw[Gy,Nat.mul_one,Nat.add_zero]
 exact sf hn
structure NA where
 name:ByteArray
 gone:Bool
 vec:List Int
 Jz:Int
 node:Int
 method:Int
 packed:ByteArray
 size:Int
 P4:Int
structure PE (h:H) (p:AV) (cs:List AV):Prop where
 nil:∀g:H,je g p=some (p,g)
 sQ:∃q:Nat→AV,(∀k,eQ k p=some (q k))∧∀g:H,Ext h g→∀(k:Nat) (c:AV),cs[k]?=some c→bN false 1 (q k) g=some c
abbrev NB:=NA×AV
structure Pg (h:H) (x:NB):Prop where
 vec:Rd h x.2 (ints x.1.vec)
 vl:x.1.vec.length<1125899906842624
 nl:x.1.name.size<1125899906842624
 pl:x.1.packed.size<1125899906842624
theorem Pg.mono {h g:H} {x:NB} (o:Pg h x) (e:Ext h g):Pg g x:=⟨o.vec.mono fun i c q=>e i c q,o.vl,o.nl,o.pl⟩
theorem Gl (c:ae) (e:Env) (h:H) (x y:X):ah c e h (.mx [x,y])=cU h (lI (x.ev e) (y.ev e)):=by
 simp only[ah,aW,QO,Rj,fO]
 cases lI (x.ev e) (y.ev e)<;>rfl
def Co (a b:Int):Int:=if a<b then b else a
theorem DQ (k:IntKind) (a b:Int):lI (.int k a) (.int k b)=some (.int k (Co a b)):=rfl
theorem Rd.Pt {h:H} {v:AV} {cs:List AV} (r:Rd h v cs) (hc:cs≠[]):fj 1 v .aO=some false:=by
 obtain⟨r,hs⟩:=r
 unfold aR at r
 split at r
 · obtain⟨_,h2⟩:=uf (ud r);exact absurd h2.symm hc
 · exact absurd rfl (hs _)
 · rfl
 · rfl
 · cases r
theorem Hy {n:Nat} {h:H} {v:AV} {k:Nat} {cs:List AV} (r:xH n h v k cs) (hfn:h.floor≤h.next) (hn:0<n) (hk:0<k) {z:Nat} (hr:roomy z k=true) (hc:AV.aB cs=true):
 j9 (h.alloc []) n z (.aD h.next 0 0 n) v=some (.aD (h.next+1) 0 k n,((h.alloc []).del h.next).alloc cs):=by
 have r2:xH n (h.alloc []) v k cs:=r.mono fun i c q=>by rw[H.aV,if_neg (by have:=h.lt _ _ q;omega)];exact q
 unfold j9
 rw[r2.1,uo]
 have hkn:0<k* n:=Nat.mul_pos hk hn
 unfold dC
 rw[if_neg (by omega),if_neg (by simp [hc];omega)]
 simp only[H.iW,hfn,and_self,if_true]
 rw[u9 rfl,uo,if_neg (by simp;omega),if_pos ⟨by simp,by simpa using hr⟩]
 simp
theorem Cd:∀l:List Int,AV.aB (ints l)=true
 |[]=>rfl
 | n :: l => by
   have:=Cd l
   show AV.aB (I n::ints l)=true
   rw[pJ,this];rfl
theorem J0 (h:H) (v:AV) (l:List Int) (rd:Rd h v (ints l)) (hl:0<l.length) (hb:l.length<1000000) (hfn:h.floor≤h.next):aQ AP.A 118 [v] h=some (.aD (h.next+1) 0 l.length 1,((h.alloc []).del h.next).alloc (ints l)):=by
 have r2:=rd.PG
 rw[pf]at r2
 have ap:=Hy r2 hfn (by omega) hl (z:=8) (by simp [roomy];omega) (Cd l)
 have nn:=rd.Pt (fun q=>by
  have q2:(ints l).length=0:=by rw[q];rfl
  rw[pf]at q2
  omega)
 refine sY (fn:=AP.f118) (h2:=((h.alloc []).del h.next).alloc (ints l)) (e:=[(2,.aD (h.next+1) 0 l.length 1)]) (vs:=[.aD (h.next+1) 0 l.length 1]) rfl rfl rfl ?_ rfl
 clear rd r2
 simp (disch:=omega)only[go_sem,vo,AP.f118,nn,ap]
def Js (name:ByteArray) (node:Nat) (Jz:Int) (text:ByteArray):NA:=⟨name,false,[0,0,0,0].set node Jz,Jz,node,0,text,text.size,Ok text⟩
def nA:ByteArray:=⟨#[97]⟩
def PH:ByteArray:=⟨#[104,105]⟩
def P7:ByteArray:=⟨#[104,111]⟩
def eA:NA:=Js nA 0 1 PH
def eB:NA:=Js nA 2 1 P7
def eD:NA:={eA with P4:=(Ok PH^^^1:Nat)}
end Ab
