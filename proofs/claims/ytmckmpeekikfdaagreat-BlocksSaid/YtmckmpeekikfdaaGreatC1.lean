/- Part C1. -/
import Derived.KernelRfl
import Derived.Test.YtmckmpeekikfdaaGreatAP
set_option linter.unusedSimpArgs false
set_option linter.unusedVariables false
namespace Ab
open Go
theorem Vx:type_of% @List.getD_eq_getElem?_getD:= @List.getD_eq_getElem?_getD
theorem Vy:type_of% @List.length_cons:= @List.length_cons
theorem Vz:type_of% @List.getElem?_eq_getElem:= @List.getElem?_eq_getElem
theorem VC:type_of% @List.length_nil:= @List.length_nil
theorem VD:type_of% @decide_eq_false:= @decide_eq_false
theorem VE:type_of% @decide_eq_true:= @decide_eq_true
theorem VF:type_of% @Int.eq_ofNat_of_zero_le:= @Int.eq_ofNat_of_zero_le
theorem VG:type_of% @Option.map_some:= @Option.map_some
theorem VH:type_of% @List.append_assoc:= @List.append_assoc
theorem VJ:type_of% @List.flatMap_cons:= @List.flatMap_cons
theorem VK:type_of% @List.map_cons:= @List.map_cons
theorem VL:type_of% @List.getElem?_append_right:= @List.getElem?_append_right
theorem VM:type_of% @List.append_nil:= @List.append_nil
theorem VN:type_of% @List.mem_map:= @List.mem_map
theorem VO:type_of% @Nat.pow_le_pow_right:= @Nat.pow_le_pow_right
theorem VP:type_of% @List.getElem_mem:= @List.getElem_mem
theorem VQ:type_of% @List.getElem?_append_left:= @List.getElem?_append_left
theorem VR:type_of% @List.length_replicate:= @List.length_replicate
theorem VS:type_of% @List.getElem?_eq_none:= @List.getElem?_eq_none
theorem VT:type_of% @List.length_set:= @List.length_set
theorem VU:type_of% @List.eq_of_mem_replicate:= @List.eq_of_mem_replicate
theorem VV:type_of% @List.getElem?_set:= @List.getElem?_set
theorem VW:type_of% @List.drop_zero:= @List.drop_zero
theorem VX:type_of% @Classical.byContradiction:= @Classical.byContradiction
theorem VY:type_of% @List.mem_append:= @List.mem_append
theorem VZ:type_of% @List.length_take:= @List.length_take
theorem V0:type_of% @List.mem_or_eq_of_mem_set:= @List.mem_or_eq_of_mem_set
theorem V3:type_of% @List.eq_nil_of_length_eq_zero:= @List.eq_nil_of_length_eq_zero
theorem V4:type_of% @List.getElem?_replicate:= @List.getElem?_replicate
theorem V5:type_of% @List.sum_cons:= @List.sum_cons
theorem V6:type_of% @List.getElem?_range:= @List.getElem?_range
theorem V7:type_of% @List.map_congr_left:= @List.map_congr_left
theorem V8:type_of% @List.length_singleton:= @List.length_singleton
theorem V9:type_of% @List.set_append_right:= @List.set_append_right
theorem Wa:type_of% @List.mem_iff_getElem:= @List.mem_iff_getElem
theorem Wb:type_of% @List.mem_cons_of_mem:= @List.mem_cons_of_mem
theorem Wc:type_of% @List.length_map:= @List.length_map
theorem Wd:type_of% @List.nil_append:= @List.nil_append
theorem We:type_of% @Option.map_none:= @Option.map_none
theorem Wf:type_of% @List.length_pos_iff:= @List.length_pos_iff
theorem Wg:type_of% @Int.toNat_natCast:= @Int.toNat_natCast
theorem Wh:type_of% @List.Perm.refl:= @List.Perm.refl
theorem Wi:type_of% @Int.le_refl:= @Int.le_refl
theorem Wj:type_of% @congrArg:= @congrArg
theorem Wk:type_of% @List.map_nil:= @List.map_nil
theorem Wl:type_of% @List.take_zero:= @List.take_zero
theorem Wm:type_of% @List.nodup_cons:= @List.nodup_cons
theorem Wn:type_of% @Nat.mul_le_mul:= @Nat.mul_le_mul
theorem Wo:type_of% @Nat.sub_self:= @Nat.sub_self
attribute [local congr] tY
def xM (l:List Int) (n:Nat):Nat:=if n=0 then 0 else l.countP (fun x=>x==(n:Int))
def syms (l:List Int) (n:Nat):List Int:=if n=0 then []else l.zipIdx.filterMap fun p=>if p.1=(n:Int)then some (p.2:Int)else none
theorem A3 (p:List Int) (x:Int) (n:Nat):xM (p++[x]) n=xM p n+if n≠0∧x=(n:Int)then 1 else 0:=by
 unfold xM
 by_cases hn:n=0
 · simp [hn]
 · simp [hn,List.countP_append,List.countP_cons]
theorem BA (p:List Int) (x:Int) (n:Nat):syms (p++[x]) n=syms p n++if n≠0∧x=(n:Int)then [(p.length:Int)]else []:=by
 unfold syms
 by_cases hn:n=0
 · simp [hn]
 · simp [hn,List.zipIdx_append,List.filterMap_append]
   split<;>simp_all
theorem Ik (l:List Int) (n:Nat):(syms l n).length≤l.length:=by
 unfold syms
 split
 · simp
 · refine vT (List.length_filterMap_le _ _) ?_
   simp
theorem AZ (l:List Int) (n:Nat):xM l n≤l.length:=by
 unfold xM
 split
 · omega
 · exact List.countP_le_length
structure Bk (h0 h:H) (b:Nat) (C:Nat→AV) (p:List Int):Prop where
 get:h.get b=some (nU 49 C)
 fl:h.floor=h0.next
 fb:h0.next≤b
 nx:h.floor≤h.next
 low:∀id,id<h0.next→h.get id=h0.get id
 KQ:∀n,n<16→C (16+n)=I (xM p n)
 own:∀n,n<16→nT h (C (32+n)) (ints (syms p n))
 nb:∀n,n<16→(C (32+n)).id?≠some b
 Jo:∀n m,n<16→m<16→n≠m→∀i,(C (32+n)).id?=some i→(C (32+m)).id?≠some i
set_option maxHeartbeats 1000000 in
theorem Ku (h0 h : H) (b : Nat) (C : Nat → AV) (p : List Int) (n : Nat) (x : AV) (N : Int) (bk : Bk h0 h b C p) (hn1 : 0 < n) (hn : n < 16) (hp : p.length < 100000) (hel : ∃ a, fP 1 x (I p.length) = some a ∧ ∀ g : H, (∀ id c, h0.get id = some c → g.get id = some c) → bP false 1 a g = some (I n)) (hN : (p.length : Int) < N) :
 ∃h' C',aL (aR AP.A) bp AP.f41L1 [(3,.aE b 0),(10,x),(11,I N),(12,I p.length)] h=some (.normal,[(3,.aE b 0),(10,x),(11,I N),(12,I (p.length+1))],h')∧Bk h0 h' b C' (p++[(n:Int)])∧∀i,(i<16∨i=48)→C' i=C i:=by
 obtain⟨a,ha1,ha2⟩:=hel
 have hlow:∀id c,h0.get id=some c→h.get id=some c:=fun id c q=>by rw[bk.low id (h0.lt id c q)];exact q
 have hld:=ha2 h hlow
 have hx:cN (I n) 16=some n:=kE hn
 have g1:(nU 49 C)[16+n]?=some (I (xM p n)):=by rw[fN (by omega),bk.KQ n hn]
 have hcl:=AZ p n
 have hw:IntKind.wrap .i64 ((xM p n:Int)+1)=xM p n+1:=uw (by omega) (by omega)
 have hw2:IntKind.wrap .i64 ((p.length:Int)+1)=p.length+1:=uw (by omega) (by omega)
 have hfb:h.floor≤b:=by rw[bk.fl];exact bk.fb
 have hs1:(nU 49 C).set (16+n) (I (xM p n+1))=nU 49 (uP C (16+n) (I (xM p n+1))):=uu (by omega) _
 obtain⟨C1,eC1⟩:∃D,D=uP C (16+n) (I (xM p n+1)):=⟨_,rfl⟩
 rw[←eC1]at hs1
 obtain⟨h1,eh1⟩:∃g,g=(h.set b (nU 49 C1)).alloc [I p.length]:=⟨_,rfl⟩
 have hbn:b<h.next:=h.lt _ _ bk.get
 have hb1:h1.get b=some (nU 49 C1):=by
  rw[eh1,H.aW,H.jC,if_neg (by omega),H.dw,if_pos rfl,bk.get];rfl
 have hC1:C1 (32+n)=C (32+n):=by rw[eC1,uP,if_neg (by omega)]
 have hlo1:∀i,i≠b→i≠h.next→h1.get i=h.get i:=fun i q1 q2=>by
  rw[eh1,H.aW,H.jC,if_neg q2,H.dw,if_neg q1]
 have hfl1:h1.floor=h.floor:=by rw[eh1];simp
 have hnx1:h1.next=h.next+1:=by rw[eh1];simp
 have ho1:∀m,m<16→nT h1 (C (32+m)) (ints (syms p m)):=fun m hm=>
  (bk.own m hm).mono hfl1 fun i hi=>hlo1 i (fun e=>bk.nb m hm (e ▸ hi)) (by have:=(bk.own m hm).lt hi;omega)
 have hsl:=Ik p n
 have hnxf:=bk.nx
 obtain⟨v',h2,q1,q2,q3,q4,q5,q6⟩:=(ho1 n hn).app (by omega) (z:=8) (I p.length) rfl (by simp [roomy];omega)
 have g2:(nU 49 C1)[32+n]?=some (C (32+n)):=by rw[fN (by omega),hC1]
 have hb2:h2.get b=some (nU 49 C1):=by rw[q5 b (bk.nb n hn) (by omega)];exact hb1
 have hs2:(nU 49 C1).set (32+n) v'=nU 49 (uP C1 (32+n) v'):=uu (by omega) _
 have hfl2:h2.floor≤b:=by have:=bk.fb;have:=bk.fl;omega
 have hv':v'.cells=[v']∧v'.sc=true:=by
  rcases q2 with ⟨rfl,_⟩|⟨id,rfl,_⟩<;>exact⟨rfl,rfl⟩
 have b1:16+n≤48:=by omega
 have b2:32+n≤48:=by omega
 have hal:(h.set b (nU 49 C1)).get b=some (nU 49 C1):=by rw[H.dw,if_pos rfl,bk.get];rfl
 have hal2:h1.get h.next=some [I p.length]:=by rw[eh1,H.aW,H.jC,if_pos rfl]
 refine⟨h2.set b (nU 49 (uP C1 (32+n) v')),uP C1 (32+n) v', ?_, ?_,fun i hi=>by rw[uP,if_neg (by omega),eC1,uP,if_neg (by omega)]⟩
 · simp only[I]at *
   simp [AP.f41L1,aL,aw,aN,aj,ai,bn,aY,ha1,hld,hN,hn1,hx,bk.get,g1,hw,hw2,hfb,hs1,dJ,dR,kS,aS,H.aW,bT.aO,b1,b2,hal,g2,←eh1,hal2,q1,hb2,hs2,hfl2,hv'.1,hv'.2]
 · refine⟨by rw[H.dw,if_pos rfl,hb2];rfl,by simp;rw[q3,hfl1,bk.fl],bk.fb,by simp;omega,fun id hid=> ?_,fun m hm=> ?_,fun m hm=> ?_,fun m hm=> ?_,fun m k hm hk hne i hi=> ?_⟩
   · have hfb':=bk.fb
     have hfl':=bk.fl
     rw[H.dw,if_neg (by omega),q5 id ?_ (by omega),hlo1 id (by omega) (by omega),bk.low id hid]
     intro hi
     rcases bk.own n hn with ⟨e,_⟩|⟨k,e,_,q⟩
     · rw[e]at hi;cases hi
     · rw[e]at hi;cases hi;have:=q.1;omega
   · rw[uP,if_neg (by omega),eC1,uP,A3]
     by_cases e:m=n
     · subst e;rw[if_pos rfl,if_pos ⟨by omega,rfl⟩];simp
     · rw[if_neg (by omega),bk.KQ m hm,if_neg (by omega)];simp
   · have hm32:uP C1 (32+n) v' (32+m)=if m=n then v' else C (32+m):=by
      simp only[uP]
      by_cases e:m=n
      · rw[if_pos (by omega),if_pos e]
      · rw[if_neg (by omega),if_neg e,eC1,uP,if_neg (by omega)]
     rw[hm32,BA]
     by_cases e:m=n
     · subst e
       rw[if_pos rfl,if_pos ⟨by omega,rfl⟩,qf]
       refine q2.mono (by simp) fun i hi=> ?_
       rw[H.dw,if_neg]
       intro e2;subst e2;rw[q6]at hi;cases hi;omega
     · rw[if_neg e,if_neg (by omega),VM]
       refine(ho1 m hm).mono (by simp;omega) fun i hi=> ?_
       have hlt:=(bk.own m hm).lt hi
       rw[H.dw,if_neg (fun (e2:i=b)=>bk.nb m hm (e2 ▸ hi)),q5 i (bk.Jo m n hm hn e i hi) (by omega)]
   · have hm32:uP C1 (32+n) v' (32+m)=if m=n then v' else C (32+m):=by
      simp only[uP]
      by_cases e:m=n
      · rw[if_pos (by omega),if_pos e]
      · rw[if_neg (by omega),if_neg e,eC1,uP,if_neg (by omega)]
     rw[hm32]
     by_cases e:m=n
     · rw[if_pos e,q6];intro e2;cases e2;omega
     · rw[if_neg e];exact bk.nb m hm
   · have hm32:∀m,uP C1 (32+n) v' (32+m)=if m=n then v' else C (32+m):=fun m=>by
      simp only[uP]
      by_cases e:m=n
      · rw[if_pos (by omega),if_pos e]
      · rw[if_neg (by omega),if_neg e,eC1,uP,if_neg (by omega)]
     rw[hm32]at hi ⊢
     by_cases e:m=n
     · rw[if_pos e,q6]at hi
       cases hi
       rw[if_neg (by omega)]
       intro e2;have:=(bk.own k hk).lt e2;omega
     · rw[if_neg e]at hi
       by_cases e3:k=n
       · rw[if_pos e3,q6];intro e2;cases e2;have:=(bk.own m hm).lt hi;omega
       · rw[if_neg e3];exact bk.Jo m k hm hk hne i hi
set_option maxHeartbeats 1000000 in
theorem Kv (h0 h:H) (b:Nat) (C:Nat→AV) (p:List Int) (x:AV) (N:Int) (bk:Bk h0 h b C p) (hp:p.length<100000) (hel:∃a,fP 1 x (I p.length)=some a∧∀g:H,(∀id c,h0.get id=some c→g.get id=some c)→bP false 1 a g=some (I 0)) (hN:(p.length:Int)<N):
 aL (aR AP.A) bp AP.f41L1 [(3,.aE b 0),(10,x),(11,I N),(12,I p.length)] h=some (.normal,[(3,.aE b 0),(10,x),(11,I N),(12,I (p.length+1))],h)∧Bk h0 h b C (p++[0]):=by
 obtain⟨a,ha1,ha2⟩:=hel
 have hlow:∀id c,h0.get id=some c→h.get id=some c:=fun id c q=>by rw[bk.low id (h0.lt id c q)];exact q
 have hld:=ha2 h hlow
 have hw2:IntKind.wrap .i64 ((p.length:Int)+1)=p.length+1:=uw (by omega) (by omega)
 refine⟨?_,⟨bk.get,bk.fl,bk.fb,bk.nx,bk.low,fun n hn=> ?_,fun n hn=> ?_,bk.nb,bk.Jo⟩⟩
 · simp only[I]at *
   simp [AP.f41L1,aL,aw,aN,aj,ai,ha1,hld,hN,hw2]
 · rw[bk.KQ n hn,A3,if_neg (by omega)];simp
 · have:=bk.own n hn
   rw[BA,if_neg (by omega),VM];exact this
theorem FA (h0 : H) (b : Nat) (x : AV) (l : List Int) (hl : l.length < 100000) (hr : ∀ y ∈ l, 0 ≤ y ∧ y < 16) (hx : Rd h0 x (ints l)) : ∀ (m : Nat) (p q : List Int) (C : Nat → AV) (h : H), l = p ++ q → q.length = m → Bk h0 h b C p →
 ∃h' C' e',Lp AP.A [3,10,11,12] AP.f41L1 [(3,.aE b 0),(10,x),(11,I l.length),(12,I p.length)] h=some (.exit 0,e',h')∧look e' 3=.aE b 0∧Bk h0 h' b C' l∧∀i,(i<16∨i=48)→C' i=C i
 | 0, p, [], C, h, hpq, _, bk => by
   refine⟨h,C, ?_⟩
   have:l=p:=by simpa using hpq
   subst this
   refine⟨_,tW (e':=[(3,.aE b 0),(10,x),(11,I l.length),(12,I l.length),(13,.bool false)]) ?_,rfl,bk,fun _ _=>rfl⟩
   simp [AP.f41L1,aL,aw,aj,ai,I]
 | m + 1, p, y :: q, C, h, hpq, hm, bk => by
   have hmem:y∈l:=by rw[hpq];simp
   obtain⟨h1,h2⟩:=hr y hmem
   have hget:l[p.length]?=some y:=by rw[hpq];simp
   have hel:=hx.elem (tG hget)
   have hlen:p.length<l.length:=(vt.1 hget).1
   obtain⟨n,rfl⟩:=VF h1
   have next:∃h' C',aL (aR AP.A) bp AP.f41L1 [(3,.aE b 0),(10,x),(11,I l.length),(12,I p.length)] h=some (.normal,[(3,.aE b 0),(10,x),(11,I l.length),(12,I (p.length+1))],h')∧Bk h0 h' b C' (p++[(n:Int)])∧∀i,(i<16∨i=48)→C' i=C i:=by
    by_cases hn:n=0
    · subst hn
      have z:=Kv h0 h b C p x l.length bk (by omega) hel (by omega)
      exact⟨h,C,z.1,z.2,fun _ _=>rfl⟩
    · exact Ku h0 h b C p n x l.length bk (by omega) (by omega) (by omega) hel (by omega)
   obtain⟨h',C',s1,bk',hC'⟩:=next
   have ih:=FA h0 b x l hl hr hx m (p++[(n:Int)]) q C' h' (by rw[hpq];simp) (by simpa using hm) bk'
   obtain⟨h2,C2,e2,k1,k2,k3,k4⟩:=ih
   exact⟨h2,C2,e2,tX s1 (by simpa using k1),k2,k3,fun i hi=>by rw[k4 i hi,hC' i hi]⟩
def wk (l:List Int):Nat→Int
 |0=>0
 |n+1=>(wk l n+xM l n)* 2
def wC (l:List Int):Nat→Int
 |0=>1
 |n+1=>wC l n* 2-xM l (n+1)
theorem Ah {l:List Int} (hl:l.length<100000) (n:Nat):0≤wk l n∧wk l n≤200000* 2^n-200000:=by
 induction n with
 |zero=>simp [wk]
 |succ n ih=>have:=AZ l n;simp only[wk,Int.pow_succ];omega
theorem HE {l:List Int} (hl:l.length<100000) (n:Nat): -(200000* 2^n-100000)≤wC l n∧wC l n≤2^n:=by
 induction n with
 |zero=>simp [wC]
 |succ n ih=>have:=AZ l (n+1);simp only[wC,Int.pow_succ];omega
theorem Ar {m:Nat} (hm:m≤15):(2:Int)^m≤32768:=by
 have h:(2:Nat)^m≤2^15:=VO (by omega) hm
 have h2:((2^m:Nat):Int)≤((2^15:Nat):Int):=Int.ofNat_le.2 h
 simpa using h2
theorem Bk.put {h0 h:H} {b:Nat} {C:Nat→AV} {p:List Int} (bk:Bk h0 h b C p) {i:Nat} (hi:i<16∨i=48) (v:AV):Bk h0 (h.set b (nU 49 (uP C i v))) b (uP C i v) p:=by
 have c:∀j,16≤j→j<48→uP C i v j=C j:=fun j h1 h2=>by rw[uP,if_neg (by omega)]
 have hbn:b<h.next:=h.lt _ _ bk.get
 refine⟨by rw[H.dw,if_pos rfl,bk.get];rfl,by simp [bk.fl],bk.fb,by simp [bk.nx],fun id hid=> ?_,fun n hn=> ?_,fun n hn=> ?_,fun n hn=> ?_,fun n m hn hm hne k hk=> ?_⟩
 · have:=bk.fb
   rw[H.dw,if_neg (by omega)];exact bk.low id hid
 · rw[c _ (by omega) (by omega)];exact bk.KQ n hn
 · rw[c _ (by omega) (by omega)]
   refine(bk.own n hn).mono (by simp) fun k hk=> ?_
   rw[H.dw,if_neg];intro (e:k=b);exact bk.nb n hn (e ▸ hk)
 · rw[c _ (by omega) (by omega)];exact bk.nb n hn
 · rw[c _ (by omega) (by omega)]at hk ⊢;exact bk.Jo n m hn hm hne k hk
set_option maxHeartbeats 1000000 in
theorem IP (h0 h:H) (b:Nat) (C:Nat→AV) (l:List Int) (m:Nat) (bk:Bk h0 h b C l) (hl:l.length<100000) (hm:m<15) (hc:C 48=I (wC l m)):
 aL (aR AP.A) bp AP.f41L0 [(3,.aE b 0),(6,I (wk l m)),(7,I (m+1))] h=
  some (.normal,[(3,.aE b 0),(6,I (wk l (m+1))),(7,I (m+1+1))],(h.set b (nU 49 (uP C (m+1) (I (wk l (m+1)))))).set b (nU 49 (uP (uP C (m+1) (I (wk l (m+1)))) 48 (I (wC l (m+1)))))):=by
 have hp:=Ar (m:=m) (by omega)
 have hf:=Ah hl m
 have hlf:=HE hl m
 have c1:=AZ l m
 have c2:=AZ l (m+1)
 have w1:IntKind.wrap .i64 (m:Int)=m:=uw (by omega) (by omega)
 have w2:IntKind.wrap .i64 (wk l m+xM l m)=wk l m+xM l m:=uw (by omega) (by omega)
 have w3:IntKind.wrap .i64 ((wk l m+xM l m)* 2)=wk l (m+1):=uw (by omega) (by omega)
 have w4:IntKind.wrap .i64 (wC l m* 2)=wC l m* 2:=uw (by omega) (by omega)
 have w5:IntKind.wrap .i64 (wC l m* 2-xM l (m+1))=wC l (m+1):=uw (by omega) (by omega)
 have w6:IntKind.wrap .i64 ((m:Int)+1+1)=m+1+1:=uw (by omega) (by omega)
 have x1:cN (I m) 16=some m:=kE (by omega)
 have x2:cN (I (m+1)) 16=some (m+1):=kE (i:=m+1) (by omega)
 have g1:(nU 49 C)[16+m]?=some (I (xM l m)):=by rw[fN (by omega),bk.KQ m (by omega)]
 obtain⟨C1,e1⟩:∃D,D=uP C (m+1) (I (wk l (m+1))):=⟨_,rfl⟩
 have s1:(nU 49 C).set (m+1) (I (wk l (m+1)))=nU 49 C1:=by rw[e1];exact uu (by omega) _
 have g2:(nU 49 C1)[16+(m+1)]?=some (I (xM l (m+1))):=by rw[fN (by omega),e1,uP,if_neg (by omega),bk.KQ (m+1) (by omega)]
 have g3:(nU 49 C1)[48]?=some (I (wC l m)):=by rw[fN (by omega),e1,uP,if_neg (by omega),hc]
 have g4:C1 48=I (wC l m):=by rw[e1,uP,if_neg (by omega),hc]
 have s2:(nU 49 C1).set 48 (I (wC l (m+1)))=nU 49 (uP C1 48 (I (wC l (m+1)))):=uu (by omega) _
 have hfb:h.floor≤b:=by rw[bk.fl];exact bk.fb
 have ge:(h.set b (nU 49 C1)).get b=some (nU 49 C1):=by rw[H.dw,if_pos rfl,bk.get];rfl
 have b1:m+1≤48:=by omega
 have b3:m≤47:=by omega
 have b4:m≤14:=by omega
 have b2:(m:Int)+1≤15:=by omega
 rw[←e1]
 simp only[I]at *
 simp [AP.f41L0,aL,aw,aN,aj,ai,bk.get,w1,w2,w3,w4,w5,w6,x1,x2,g1,g2,g3,g4,s1,s2,hfb,ge,b1,b2,b3,b4]
theorem Eo (h0:H) (b:Nat) (l:List Int) (hl:l.length<100000):∀(k m:Nat) (C:Nat→AV) (h:H),m+k=15→Bk h0 h b C l→C 48=I (wC l m)→(∀i,i≤m→C i=I (wk l i))→
 ∃h' C' e',Lp AP.A [3,6,7] AP.f41L0 [(3,.aE b 0),(6,I (wk l m)),(7,I (m+1))] h=some (.exit 2,e',h')∧look e' 3=.aE b 0∧Bk h0 h' b C' l∧C' 48=I (wC l 15)∧∀i,i≤15→C' i=I (wk l i)
 | 0, m, C, h, hk, bk, hc, hf => by
   obtain rfl:m=15:=by omega
   refine⟨h,C,[(3,.aE b 0),(6,I (wk l 15)),(7,I 16),(45,.bool false)],tW ?_,rfl,bk,hc,hf⟩
   have e:((15:Nat):Int)+1=16:=rfl
   rw[e]
   simp [AP.f41L0,aL,aw,aj,ai,I]
 | k + 1, m, C, h, hk, bk, hc, hf => by
   have st:=IP h0 h b C l m bk hl (by omega) hc
   have bk1:=(bk.put (i:=m+1) (.inl (by omega)) (I (wk l (m+1)))).put (i:=48) (.inr rfl) (I (wC l (m+1)))
   obtain⟨h',C',e',k1,k2⟩:=Eo h0 b l hl k (m+1) _ _ (by omega) bk1 (by simp [uP]) (fun i hi=>by
    rw[uP,if_neg (by omega),uP]
    by_cases e:i=m+1
    · rw[if_pos e,e]
    · rw[if_neg e];exact hf i (by omega))
   exact⟨h',C',e',tX st (by simpa using k1),k2⟩
def AL (l:List AV):AV:=if l=[]then .aP else .aV false l 0 l.length 1
def xS (l:List Int):Nat→AV:=fun i=>if i<16 then I (wk l i)else if i<32 then I (xM l (i-16))else if i<48 then AL (ints (syms l (i-32)))else I (wC l 15)
def wN (l:List Int):AV:=.aK (nU 49 (xS l)) 0
theorem Nl {f:AV→Option AV} {C D:Nat→AV}:∀(n:Nat),(∀i,i<n→f (C i)=some (D i))→fF f (nU n C)=some (nU n D):=by
 have key:∀(l:List Nat),(∀i∈l,f (C i)=some (D i))→fF f (l.map C)=some (l.map D):=by
  intro l
  induction l with
  |nil=>intro _;rfl
  |cons i l ih=>intro h;simp [fF,h i (by simp),ih (fun j hj=>h j (by simp [hj]))]
 exact fun n h=>key _ fun i hi=>h i (List.mem_range.1 hi)
theorem yE (g:Nat→Option (List AV)) (fl n:Nat) (t:Bool):∀l:List Int,fF (snap g fl (n+1) t) (ints l)=some (ints l)
 |[]=>rfl
 | x :: l => by
   have:=yE g fl n t l
   simp only[ints,VK,fF]at this ⊢
   rw[this];rfl
theorem Mp {h:H} {v:AV} {cs:List AV} {fl n:Nat} (o:nT h v cs) (hf:fl≤h.floor) (hm:fF (snap h.get fl (n+1) false) cs=some cs):snap h.get fl (n+2) false v=some (AL cs):=by
 rcases o with ⟨rfl,rfl⟩|⟨id,rfl,hg,hfl,hne⟩
 · rfl
 · have h1:¬id<fl:=by omega
   simp only[snap,if_neg h1,hg,vu,vF,Nat.mul_one,VW,List.take_length,vB,if_true,hm,AL,if_neg hne]
def C0:Nat→AV:=fun i=>if i<32 then I 0 else if i<48 then .aP else I 1
set_option maxHeartbeats 1000000 in
theorem A9 (h : H) (x : AV) (l : List Int) (hl : l.length < 100000) (hr : ∀ y ∈ l, 0 ≤ y ∧ y < 16) (hx : Rd h x (ints l)) : aR AP.A 41 [x] h = some (wN l, h) := by
 have hb0:Bk h (h.dQ.alloc (nU 49 C0)) h.next C0 []:=by
  refine⟨by simp [H.aW],by simp,vB _,by simp,fun id hid=> ?_,fun n hn=> ?_,fun n hn=> ?_,fun n hn=> ?_,fun n m hn hm hne i hi=> ?_⟩
  · rw[H.aW,if_neg (by simp;omega)];rfl
  · simp only[C0,xM,List.countP_nil];rw[if_pos (by omega)];simp
  · simp only[C0];rw[if_neg (by omega),if_pos (by omega)]
    exact .inl ⟨rfl,by unfold syms;split<;>rfl⟩
  · simp only[C0];rw[if_neg (by omega),if_pos (by omega)];exact nofun
  · simp only[C0]at hi;rw[if_neg (by omega),if_pos (by omega)]at hi;cases hi
 obtain⟨h1,D1,e1,k1,k2,bk1,k3⟩:=FA h h.next x l hl hr hx l.length [] l C0 _ rfl rfl hb0
 obtain⟨h2,D2,e2,k4,k5,bk2,k6,k7⟩:=Eo h h.next l hl 15 0 D1 h1 rfl bk1 (by rw[k3 48 (.inr rfl)];rfl) (fun i hi=>by
  obtain rfl:i=0:=by omega
  rw[k3 0 (.inl (by omega))];rfl)
 have kx:aL (aR AP.A) bp AP.f41.body (params 0 [x]) h.dQ=some (.ret,[(2,.aE h.next 0)],h2):=by
  unfold AP.f41
  refine u4 (e1:=[(0,x)]) (h1:=h.dQ) rfl ?_
  refine u4 (e1:=[(0,x),(3,.aE h.next 0)]) (h1:=h.dQ.alloc (nU 49 C0)) rfl ?_
  refine u4 (e1:=[(3,.aE h.next 0)]) (h1:=h1) ?_ ?_
  · refine u4 (e1:=[(3,.aE h.next 0),(10,x),(11,I l.length),(12,I 0)]) (h1:=h.dQ.alloc (nU 49 C0)) ?_ ?_
    · simp [aL,aw,aj,ai,hx.len,I]
    · have:=qD (k:=[3]) k1
      simp only[rT,sE,k2]at this
      exact this
  refine u4 (e1:=[(3,.aE h.next 0),(6,I 0)]) (h1:=h1) rfl ?_
  refine u4 (e1:=[(3,.aE h.next 0)]) (h1:=h2) ?_ ?_
  · refine u4 (e1:=[(3,.aE h.next 0),(6,I 0),(7,I 1)]) (h1:=h1) rfl ?_
    have:=qD (k:=[3]) k4
    simp only[rT,sE,k5]at this
    exact this
  exact u4 (e1:=[(2,.aE h.next 0)]) (h1:=h2) rfl rfl
 have hsn:snap h2.get h.next 16 true (.aE h.next 0)=some (wN l):=by
  have hm:fF (snap h2.get h.next 15 false) (nU 49 D2)=some (nU 49 (xS l)):=by
   refine Nl 49 fun i hi=> ?_
   by_cases c1:i<16
   · rw[k7 i (by omega),xS,if_pos c1];rfl
   by_cases c2:i<32
   · have:=bk2.KQ (i-16) (by omega)
     rw[show 16+(i-16)=i by omega]at this
     rw[this,xS,if_neg c1,if_pos c2];rfl
   by_cases c3:i<48
   · have:=bk2.own (i-32) (by omega)
     rw[show 32+(i-32)=i by omega]at this
     rw[xS,if_neg c1,if_neg c2,if_pos c3]
     exact Mp (n:=13) this (by rw[bk2.fl];exact vB _) (yE _ _ _ _ _)
   · obtain rfl:i=48:=by omega
     rw[k6,xS,if_neg c1,if_neg c2,if_neg c3];rfl
  simp only[snap,if_neg (Nat.lt_irrefl _),bk2.get,vu,hm,wN]
 exact uL (fn:=AP.f41) rfl rfl rfl kx rfl hsn
theorem zD (w n:Nat) (h:n<2^w):(BitVec.ofInt w (n:Int)).toNat=n:=by
 rw[BitVec.ofInt_natCast,BitVec.toNat_ofNat,Nat.mod_eq_of_lt h]
theorem vZ {n:Nat} (h:n<9223372036854775808):IntKind.wrap .i64 (n:Int)=n:=uw (by omega) (by omega)
theorem wrap_u8 {n:Nat} (h:n<256):IntKind.wrap .u8 (n:Int)=n:=by
 have e:IntKind.wrap .u8 (n:Int)=(n:Int)%256:=by simp [IntKind.wrap,IntKind.bits,IntKind.signed]
 rw[e];omega
theorem MS {a b:Nat} (ha:a<9223372036854775808) (hb:b<9223372036854775808):bits .or .i64 (a:Int) (b:Int)=((a|||b:Nat):Int):=by
 have h1:a<2^63:=by simpa using ha
 have h2:b<2^63:=by simpa using hb
 have h3:a|||b<2^63:=Nat.or_lt_two_pow h1 h2
 show IntKind.wrap .i64 (((BitVec.ofInt 64 (a:Int)|||BitVec.ofInt 64 (b:Int)).toNat:Nat):Int)=_
 rw[BitVec.toNat_or,zD 64 a (by omega),zD 64 b (by omega)]
 exact vZ (by simpa using h3)
theorem J7 {a b:Nat} (ha:a<256) (hb:b<256):bits .and .u8 (a:Int) (b:Int)=((a&&&b:Nat):Int):=by
 have h3:a&&&b<2^8:=Nat.and_lt_two_pow _ (by simpa using hb)
 show IntKind.wrap .u8 (((BitVec.ofInt 8 (a:Int)&&&BitVec.ofInt 8 (b:Int)).toNat:Nat):Int)=_
 rw[BitVec.toNat_and,zD 8 a (by omega),zD 8 b (by omega)]
 exact wrap_u8 (by simpa using h3)
theorem LX {x b i:Nat} (hx:x<2^i):x|||b* 2^i=x+b* 2^i:=by
 have:=Nat.two_pow_add_eq_or_of_lt hx b
 rw[Nat.or_comm,Nat.mul_comm b,←this,Nat.add_comm]
@[simp] theorem KU {k j : IntKind} {a b : Int} : bj .shr (.int k a) (.int j b) = pP .shr k a b := rfl
@[simp] theorem KT {k j : IntKind} {a b : Int} : bj .shl (.int k a) (.int j b) = pP .shl k a b := rfl
attribute [go_sem] KT KU
theorem QA {a s:Nat} (hs:s≤8):pP .shr .u8 (a:Int) (s:Int)=some (.int .u8 ((a/2^s:Nat):Int)):=by
 unfold pP
 rw[if_neg (by omega)]
 simp only[IntKind.bits,Wg,Nat.min_eq_left hs]
 congr 2
 rw[Int.fdiv_eq_ediv_of_nonneg _ (Int.pow_nonneg (by omega))]
 simp
theorem yL {a s:Nat} (hs:s≤64) (h:a* 2^s<9223372036854775808):pP .shl .i64 (a:Int) (s:Int)=some (.int .i64 ((a* 2^s:Nat):Int)):=by
 unfold pP
 rw[if_neg (by omega)]
 simp only[IntKind.bits,Wg,Nat.min_eq_left hs]
 congr 2
 rw[←vZ h];simp
def ym (s:ByteArray) (p:Nat):Nat:=((s[p/8]?).map (·.toNat)).getD 0/2^(p%8)%2
theorem G0 (s:ByteArray) (p:Nat):ym s p≤1:=by unfold ym;omega
def wz (s:ByteArray) (p:Nat):Nat→Nat
 |0=>0
 |n+1=>wz s p n+ym s (p+n)* 2^n
theorem yg (s:ByteArray) (p:Nat):∀n,wz s p n<2^n
 |0=>by simp [wz]
 | n + 1 => by
   have h:=yg s p n
   have b:=G0 s (p+n)
   have hb:ym s (p+n)=0∨ym s (p+n)=1:=by omega
   rw[wz,Nat.pow_succ]
   rcases hb with hb|hb<;>rw[hb]<;>omega
theorem Bh (l:List Int) (n:Nat):(syms l n).length=xM l n:=by
 have key:∀(l:List Int) (k:Nat),((l.zipIdx k).filterMap fun p=>if p.1=(n:Int)then some (p.2:Int)else none).length=l.countP (fun x=>x==(n:Int)):=by
  intro l
  induction l with
  |nil=>intro k;rfl
  | cons x l ih =>
    intro k
    rw[List.zipIdx_cons,List.filterMap_cons,List.countP_cons]
    by_cases h:x=(n:Int)
    · simp only[if_pos h,Vy,ih (k+1)];simp [h]
    · simp only[if_neg h,ih (k+1)];simp [h]
 unfold syms xM
 split
 · rfl
 · exact key l 0
def yQ (l:List Int) (n:Nat) (v:Int):Option Int:=if wk l n≤v then(syms l n)[(v-wk l n).toNat]? else none
set_option maxHeartbeats 1000000 in
theorem Pe (h:H) (l:List Int) (hl:l.length<100000) (n:Nat) (hn1:1≤n) (hn:n≤15) (v:Int) (hv0:0≤v) (hv:v<1000000):
 aR AP.A 72 [wN l,I n,I v] h=some (match yQ l n v with|some y=>.bL [I y,.bool true]|none=>.bL [I 0,.bool false],h):=by
 have hp:=Ar hn
 have hf:=Ah hl n
 have hc:=AZ l n
 have hsc:=Bh l n
 have c1:¬((n:Int)<1):=by omega
 have c2:¬(15:Int)<n:=by omega
 have a1:cN (I n) 16=some n:=kE (by omega)
 have e1:xS l n=I (wk l n):=by rw[xS,if_pos (by omega)]
 have e2:xS l (16+n)=I (xM l n):=by rw[xS,if_neg (by omega),if_pos (by omega),show 16+n-16=n by omega]
 have e3:xS l (32+n)=AL (ints (syms l n)):=by rw[xS,if_neg (by omega),if_neg (by omega),if_pos (by omega),show 32+n-32=n by omega]
 have g1:(nU 49 (xS l))[n]?=some (I (wk l n)):=by rw[fN (by omega),e1]
 have g2:(nU 49 (xS l))[16+n]?=some (I (xM l n)):=by rw[fN (by omega),e2]
 have g3:(nU 49 (xS l))[32+n]?=some (AL (ints (syms l n))):=by rw[fN (by omega),e3]
 have hb:wN l=.aK (nU 49 (xS l)) 0:=rfl
 rw[hb]
 clear hb e1 e2 e3
 generalize nU 49 (xS l)=T at g1 g2 g3 ⊢
 by_cases k1:v<wk l n
 · have:yQ l n v=none:=by rw[yQ,if_neg (by omega)]
   rw[this]
   refine um (fn:=AP.f72) (e:=[(6,I 0),(7,.bool false)]) rfl rfl rfl ?_ rfl
   simp only[I]at *
   simp only[AP.f72,go_sem,VD c1,VD c2,a1,g1,VE k1]
 have w1:IntKind.wrap .i64 (v-wk l n)=v-wk l n:=uw (by omega) (by omega)
 by_cases k2:(xM l n:Int)≤v-wk l n
 · have:yQ l n v=none:=by rw[yQ,if_pos (by omega),VS (by omega)]
   rw[this]
   refine um (fn:=AP.f72) (e:=[(6,I 0),(7,.bool false)]) rfl rfl rfl ?_ rfl
   simp only[I]at *
   simp only[AP.f72,go_sem,VD c1,VD c2,a1,g1,g2,VD k1,w1,VE k2]
 · obtain⟨i,hi⟩:∃i:Nat,v-wk l n=i:=VF (by omega)
   have hil:i<(syms l n).length:=by omega
   obtain⟨y,hy⟩:∃y,(syms l n)[i]?=some y:=⟨_,Vz hil⟩
   have:yQ l n v=some y:=by rw[yQ,if_pos (by omega),hi,Wg,hy]
   rw[this]
   have hne:ints (syms l n)≠[]:=by intro e;have:=Wj List.length e;simp at this;simp [this]at hil
   have hs:AL (ints (syms l n))=.aV false (ints (syms l n)) 0 (ints (syms l n)).length 1:=by rw[AL,if_neg hne]
   rw[hs]at g3
   have a2:fP 1 (.aV false (ints (syms l n)) 0 (ints (syms l n)).length 1) (I i)=some (.aK (ints (syms l n)) i):=by
    simp [fP,kE (show i<(syms l n).length from hil)]
   have g4:=tG hy
   rw[hi]at w1 k2
   refine um (fn:=AP.f72) (e:=[(6,I y),(7,.bool true)]) rfl rfl rfl ?_ rfl
   simp only[I]at *
   simp only[AP.f72,go_sem,VD c1,VD c2,a1,g1,g2,VD k1,hi,w1,VD k2,g3,a2,g4]
attribute [local congr] tY
theorem zf (a b:Nat):Int.tdiv (a:Int) (b:Int)=((a/b:Nat):Int):=by simp
theorem Bi (a b:Nat):Int.tmod (a:Int) (b:Int)=((a%b:Nat):Int):=by rw[Int.tmod_eq_emod_of_nonneg (by omega)];simp
theorem MX {s:ByteArray} {i:Nat} (h:i<s.size):∃b:UInt8,s[i]?=some b:=⟨s[i],by simp [h]⟩
set_option maxHeartbeats 1000000 in
theorem Ly (h:H) (r:Nat) (s:ByteArray) (p x i n:Nat) (hg:h.get r=some [.str s,I p]) (hf:h.floor≤r) (hp:p<8* s.size) (hs:s.size<1125899906842624) (hx:x<2^i) (hi:i<n) (hn:n≤16):
 aL (aR AP.A) bp AP.f58L0 [(0,.aE r 0),(6,I x),(32,I n),(33,I i)] h=some (.normal,[(0,.aE r 0),(6,I (x+ym s p* 2^i:Nat)),(32,I n),(33,I (i+1:Nat))],h.set r [.str s,I (p+1:Nat)]):=by
 obtain⟨b,hb⟩:=MX (s:=s) (i:=p/8) (by omega)
 have hb8:b.toNat<256:=b.toNat_lt
 have hbit:ym s p=b.toNat/2^(p%8)%2:=by simp [ym,hb]
 have t1:Int.tdiv (p:Int) 8=((p/8:Nat):Int):=zf p 8
 have t2:Int.tmod (p:Int) 8=((p%8:Nat):Int):=Bi p 8
 have w1:IntKind.wrap .i64 ((p/8:Nat):Int)=((p/8:Nat):Int):=vZ (by omega)
 have a1:cN (I (p/8:Nat)) s.size=some (p/8):=kE (by omega)
 have s1:pP .shr .u8 (b.toNat:Int) ((p%8:Nat):Int)=some (.int .u8 ((b.toNat/2^(p%8):Nat):Int)):=QA (by omega)
 have hlt:b.toNat/2^(p%8)<256:=Nat.lt_of_le_of_lt (Nat.div_le_self _ _) hb8
 have n1:bits .and .u8 ((b.toNat/2^(p%8):Nat):Int) 1=((ym s p:Nat):Int):=by
  have:=J7 (b:=1) hlt (by omega)
  rw[Nat.and_one_is_mod]at this
  rw[hbit];exact this
 have hbl:=G0 s p
 have w2:IntKind.wrap .i64 ((ym s p:Nat):Int)=((ym s p:Nat):Int):=vZ (by omega)
 have hpow:(2:Nat)^i≤2^16:=VO (by omega) (by omega)
 have hmul:ym s p* 2^i≤2^i:=by
  have:=vD (2^i) hbl;simpa using this
 have s2:pP .shl .i64 ((ym s p:Nat):Int) (i:Int)=some (.int .i64 ((ym s p* 2^i:Nat):Int)):=yL (by omega) (by omega)
 have o1:bits .or .i64 (x:Int) ((ym s p* 2^i:Nat):Int)=((x+ym s p* 2^i:Nat):Int):=by
  rw[MS (by omega) (by omega),LX hx]
 have w3:IntKind.wrap .i64 ((p:Int)+1)=((p+1:Nat):Int):=vZ (n:=p+1) (by omega)
 have w4:IntKind.wrap .i64 ((i:Int)+1)=((i+1:Nat):Int):=vZ (n:=i+1) (by omega)
 generalize hB:ym s p=B at *
 generalize hD:b.toNat/2^(p%8)=D at *
 generalize hE:p/8=E at *
 generalize hF:p%8=F at *
 generalize hO:x+B* 2^i=O at *
 generalize hM:B* 2^i=W at *
 simp only[I]at *
 simp [AP.f58L0,aL,aw,aN,aj,ai,hg,sK,sM,t1,t2,w1,mK,a1,hb,s1,n1,w2,s2,o1,w3,w4,hi,hf]
theorem Hq (r:Nat) (s:ByteArray) (p n:Nat) (hs:s.size<1125899906842624) (hp:p+n≤8* s.size) (hn:n≤16):∀(k i:Nat) (h:H),i+k=n→h.get r=some [.str s,I (p+i:Nat)]→h.floor≤r→
 ∃e',Lp AP.A [0,6,32,33] AP.f58L0 [(0,.aE r 0),(6,I (wz s p i:Nat)),(32,I n),(33,I i)] h=some (.exit 1,e',h.set r [.str s,I (p+n:Nat)])∧look e' 6=I (wz s p n:Nat)
 | 0, i, h, hk, hg, hf => by
   obtain rfl:i=n:=by omega
   refine⟨[(0,.aE r 0),(6,I (wz s p i:Nat)),(32,I i),(33,I i),(34,.bool false)],tW ?_,rfl⟩
   rw[H.jG hg]
   simp [AP.f58L0,aL,aw,aj,ai,I]
 | k + 1, i, h, hk, hg, hf => by
   have st:=Ly h r s (p+i) (wz s p i) i n hg hf (by omega) hs (yg s p i) (by omega) hn
   obtain⟨e',k1,k2⟩:=Hq r s p n hs hp hn k (i+1) (h.set r [.str s,I (p+i+1:Nat)]) (by omega) (by rw[H.dw,if_pos rfl,hg];rfl) (by simpa using hf)
   rw[H.set_set]at k1
   exact⟨e',tX st k1,k2⟩
theorem Qi (h:H) (r:Nat) (s:ByteArray) (p n:Nat) (hg:h.get r=some [.str s,I p]) (hf:h.floor≤r) (hs:s.size<1125899906842624) (hp:p+n≤8* s.size) (hn:n≤16):
 aR AP.A 58 [.aE r 0,I n] h=some (.bL [I (wz s p n:Nat),I 0],h.set r [.str s,I (p+n:Nat)]):=by
 obtain⟨e',k1,k2⟩:=Hq r s p n hs hp hn n 0 h (by omega) hg hf
 have l1:=qD (k:=[6]) k1
 simp only[rT,sE,k2]at l1
 have c0:¬(n:Int)<0:=by omega
 have c1:¬(16:Int)<n:=by omega
 have w1:IntKind.wrap .i64 (8* (s.size:Int))=((8* s.size:Nat):Int):=vZ (n:=8* s.size) (by omega)
 have w2:IntKind.wrap .i64 (((8* s.size:Nat):Int)-p)=((8* s.size-p:Nat):Int):=by
  rw[←Int.ofNat_sub (by omega)];exact vZ (by omega)
 have c2:¬((8* s.size-p:Nat):Int)<n:=by omega
 refine um (fn:=AP.f58) (e:=[(4,I (wz s p n:Nat)),(5,I 0)]) rfl rfl rfl ?_ rfl
 unfold AP.f58
 refine u4 (e1:=[(0,.aE r 0),(1,I n)]) (h1:=h) rfl ?_
 refine u4 (e1:=[(0,.aE r 0),(1,I n)]) (h1:=h) ?_ ?_
 · generalize hM:8* s.size-p=W at *
   generalize hM2:8* s.size=W2 at *
   simp only[I]at *
   simp [aL,aw,aN,aj,ai,fE,pV,hg,jg,w1,w2,c0,c1,c2]
 refine u4 (e1:=[(0,.aE r 0),(1,I n),(6,I 0)]) (h1:=h) rfl ?_
 refine u4 (e1:=[(6,I (wz s p n:Nat))]) (h1:=h.set r [.str s,I (p+n:Nat)]) ?_ ?_
 · refine u4 (e1:=[(0,.aE r 0),(6,I 0),(32,I n),(33,I 0)]) (h1:=h) rfl ?_
   exact l1
 exact u4 (e1:=[(4,I (wz s p n:Nat)),(5,I 0)]) (h1:=h.set r [.str s,I (p+n:Nat)]) rfl rfl
theorem Nd (h:H) (r:Nat) (s:ByteArray) (p n:Nat) (hg:h.get r=some [.str s,I p]) (hs:s.size<1125899906842624) (hp0:p≤8* s.size) (hp:8* s.size<p+n) (hn:n≤16):
 aR AP.A 58 [.aE r 0,I n] h=some (.bL [I 0,I 101],h):=by
 have c0:¬(n:Int)<0:=by omega
 have c1:¬(16:Int)<n:=by omega
 have w1:IntKind.wrap .i64 (8* (s.size:Int))=((8* s.size:Nat):Int):=vZ (n:=8* s.size) (by omega)
 have w2:IntKind.wrap .i64 (((8* s.size:Nat):Int)-p)=((8* s.size-p:Nat):Int):=by
  rw[←Int.ofNat_sub (by omega)];exact vZ (by omega)
 have c2:((8* s.size-p:Nat):Int)<n:=by omega
 refine um (fn:=AP.f58) (e:=[(4,I 0),(5,I 101)]) rfl rfl rfl ?_ rfl
 unfold AP.f58
 refine u4 (e1:=[(0,.aE r 0),(1,I n)]) (h1:=h) rfl ?_
 refine u5 ?_
 generalize hM:8* s.size-p=W at *
 generalize hM2:8* s.size=W2 at *
 simp only[I]at *
 simp [aL,aw,aN,aj,ai,fE,pV,hg,jg,w1,w2,c0,c1,c2]
attribute [local congr] tY
theorem xb {A:a8} {f:Nat} {fn:fh} {args:List AV} {h h2:H} {e:Env} {vs:List AV} (hf:A f=some fn) (hnp:args.length=fn.np) (hp:fn.pure=false)
 (hx:aL (aR A) bp fn.body (params 0 args) h=some (.normal,e,h2)) (hres:cu e h2 fn.res=some vs):aR A f args h=some (dj vs,h2):=by
 refine kJ hf ?_
 unfold fe
 rw[if_pos hnp]
 simp [hp,hx,fin,hres]
def yI (l:List Nat):List AV:=l.map fun (b:Nat)=>AV.int .u8 (b:Int)
@[simp] theorem Az (l : List Nat) : (yI l).length = l.length := by simp [yI]
structure SS where
 at_:Nat
 out:List Nat
 e:Int
structure SC where
 s:Nat
 r:Nat
 text:ByteArray
 most:Int
structure St (c:SC) (S:SS) (h:H) (ov:AV):Prop where
 gs:h.get c.s=some [.aE c.r 0,ov,I c.most,I S.e]
 gr:h.get c.r=some [.str c.text,I S.at_]
 own:nT h ov (yI S.out)
 sr:c.s≠c.r
 fs:h.floor≤c.s
 fr:h.floor≤c.r
 os:ov.id?≠some c.s
 or:ov.id?≠some c.r
 nx:h.floor≤h.next
 sz:c.text.size<1125899906842624
 Aa:S.at_≤8* c.text.size
 ol:(S.out.length:Int)≤c.most
 ml:c.most≤900000
structure Fr (c:SC) (h:H) (ov:AV) (h':H) (ov':AV):Prop where
 fl:h'.floor=h.floor
 nx:h.next≤h'.next
 Iv:∀id,id<h.next→id≠c.s→id≠c.r→ov.id?≠some id→h'.get id=h.get id
 nb:∀i,ov'.id?=some i→ov.id?=some i∨h.next≤i
theorem Fr.refl (c:SC) (h:H) (ov:AV):Fr c h ov h ov:=⟨rfl,vB _,fun _ _ _ _ _=>rfl,fun _ q=>.inl q⟩
theorem Fr.trans {c:SC} {h1 h2 h3:H} {o1 o2 o3:AV} (a:Fr c h1 o1 h2 o2) (b:Fr c h2 o2 h3 o3):Fr c h1 o1 h3 o3:=by
 refine⟨b.fl.trans a.fl,vT a.nx b.nx,fun id h4 h5 h6 h7=> ?_,fun i hi=> ?_⟩
 · rw[b.Iv id (Nat.lt_of_lt_of_le h4 a.nx) h5 h6 (fun q=> ?_),a.Iv id h4 h5 h6 h7]
   rcases a.nb id q with q|q
   · exact h7 q
   · omega
 · rcases b.nb i hi with q|q
   · exact a.nb i q
   · exact .inr (vT a.nx q)
theorem St.Ti {c:SC} {S:SS} {h:H} {ov:AV} (st:St c S h ov) (e:Int):St c {S with e:=e} (h.set c.s [.aE c.r 0,ov,I c.most,I e]) ov∧Fr c h ov (h.set c.s [.aE c.r 0,ov,I c.most,I e]) ov:=by
 refine⟨⟨by rw[H.dw,if_pos rfl,st.gs];rfl,by rw[H.dw,if_neg (Ne.symm st.sr)];exact st.gr,st.own.mono (by simp) fun i hi=> ?_,st.sr,by simpa using st.fs,by simpa using st.fr,st.os,st.or,by simpa using st.nx,st.sz,st.Aa,st.ol,st.ml⟩,⟨by simp,by simp,fun id h1 h2 h3 h4=>by rw[H.dw,if_neg h2],fun _ q=>.inl q⟩⟩
 rw[H.dw,if_neg];intro (e:i=c.s);exact st.os (e ▸ hi)
theorem St.Qy {c:SC} {S:SS} {h:H} {ov:AV} (st:St c S h ov) {p:Nat} (hp:p≤8* c.text.size):St c {S with at_:=p} (h.set c.r [.str c.text,I p]) ov∧Fr c h ov (h.set c.r [.str c.text,I p]) ov:=by
 refine⟨⟨by rw[H.dw,if_neg st.sr];exact st.gs,by rw[H.dw,if_pos rfl,st.gr];rfl,st.own.mono (by simp) fun i hi=> ?_,st.sr,by simpa using st.fs,by simpa using st.fr,st.os,st.or,by simpa using st.nx,st.sz,hp,st.ol,st.ml⟩,⟨by simp,by simp,fun id h1 h2 h3 h4=>by rw[H.dw,if_neg h3],fun _ q=>.inl q⟩⟩
 rw[H.dw,if_neg];intro (e:i=c.r);exact st.or (e ▸ hi)
def wQ (k:Int) (S:SS):SS:=if S.e=0 then {S with e:=k}else S
theorem yz {c:SC} {S:SS} {h:H} {ov:AV} (st:St c S h ov) (k:Int):∃h',aR AP.A 45 [.aE c.s 0,I k] h=some (.bL [],h')∧St c (wQ k S) h' ov∧Fr c h ov h' ov:=by
 have gs:=st.gs
 have fs:=st.fs
 by_cases he:S.e=0
 · refine⟨_, ?_,by rw[wQ,if_pos he];exact(st.Ti k).1,(st.Ti k).2⟩
   refine xb (fn:=AP.f45) (e:=[]) rfl rfl rfl ?_ rfl
   simp only[I]at *
   simp [AP.f45,params,aL,aw,aj,ai,gs,he,fs]
 · refine⟨h, ?_,by rw[wQ,if_neg he];exact st,Fr.refl _ _ _⟩
   refine xb (fn:=AP.f45) (e:=[]) rfl rfl rfl ?_ rfl
   simp only[I]at *
   simp [AP.f45,params,aL,aw,aj,ai,gs,he,fs]
def wm (c:SC) (n:Nat) (S:SS):Nat×SS:=if S.at_+n≤8* c.text.size then(wz c.text S.at_ n,{S with at_:=S.at_+n})else(0,wQ 700 S)
theorem Lx {c:SC} {S:SS} {h:H} {ov:AV} (st:St c S h ov) {n:Nat} (hn:n≤16):∃h',aR AP.A 38 [.aE c.s 0,I n] h=some (I ((wm c n S).1:Nat),h')∧St c (wm c n S).2 h' ov∧Fr c h ov h' ov:=by
 have gs:=st.gs
 by_cases hp:S.at_+n≤8* c.text.size
 · have g:=Qi h c.r c.text S.at_ n st.gr st.fr st.sz hp hn
   refine⟨_, ?_,by rw[wm,if_pos hp];exact(st.Qy hp).1,(st.Qy hp).2⟩
   rw[wm,if_pos hp]
   refine um (fn:=AP.f38) (e:=[(4,I (wz c.text S.at_ n:Nat))]) rfl rfl rfl ?_ rfl
   simp only[I]at *
   simp [AP.f38,params,aL,aw,aj,ai,gs,aX,g]
 · have g:=Nd h c.r c.text S.at_ n st.gr st.sz st.Aa (by omega) hn
   obtain⟨h',k1,k2,k3⟩:=yz st 700
   refine⟨h', ?_,by rw[wm,if_neg hp];exact k2,k3⟩
   rw[wm,if_neg hp]
   refine um (fn:=AP.f38) (e:=[(4,I 0)]) rfl rfl rfl ?_ rfl
   simp only[I]at *
   simp [AP.f38,params,aL,aw,aj,ai,gs,aX,g,k1]
def Ew (c:SC) (b:Nat) (S:SS):SS:=
 let T:=if c.most≤S.out.length then wQ 701 S else S
 if T.e=0 then {T with out:=T.out++[b]}else T
theorem nT.len {h:H} {v:AV} {cs:List AV} (o:nT h v cs):jg false v=some (I cs.length):=by
 rcases o with ⟨rfl,rfl⟩|⟨id,rfl,_⟩<;>rfl
theorem Mf {c : SC} {S : SS} {h : H} {ov : AV} (st : St c S h ov) {b : Nat} : ∃ h' ov', aR AP.A 59 [.aE c.s 0, .int .u8 b] h = some (.bL [], h') ∧ St c (Ew c b S) h' ov' ∧ Fr c h ov h' ov' := by
 have gs0:=st.gs
 have hol:=st.ol
 have hml:=st.ml
 have ln:=st.own.len
 rw[Az]at ln
 by_cases hm:c.most≤S.out.length
 · obtain⟨h1,k1,k2,k3⟩:=yz st 701
   have he:(wQ 701 S).e≠0:=by unfold wQ;split<;>simp_all
   have hp:Ew c b S=wQ 701 S:=by unfold Ew;simp only[if_pos hm,if_neg he]
   have gs1:=k2.gs
   refine⟨h1,ov, ?_,by rw[hp];exact k2,k3⟩
   refine xb (fn:=AP.f59) (e:=[]) rfl rfl rfl ?_ rfl
   simp only[I]at *
   simp [AP.f59,params,aL,aw,aN,aj,ai,gs0,ln,hm,aX,k1,gs1,he]
 by_cases he:S.e=0
 · have hp:Ew c b S={S with out:=S.out++[b]}:=by unfold Ew;simp only[if_neg hm,if_pos he]
   have hsl:c.s<h.next:=h.lt _ _ st.gs
   have hrl:c.r<h.next:=h.lt _ _ st.gr
   obtain⟨h1,eh1⟩:∃g,g=h.alloc [.int .u8 b]:=⟨_,rfl⟩
   have hlo1:∀i,i≠h.next→h1.get i=h.get i:=fun i q=>by rw[eh1,H.aW,if_neg q]
   have hfl1:h1.floor=h.floor:=by rw[eh1];simp
   have hnx1:h1.next=h.next+1:=by rw[eh1];simp
   have ho1:nT h1 ov (yI S.out):=st.own.mono hfl1 fun i hi=>hlo1 i (by have:=st.own.lt hi;omega)
   have hnxf:=st.nx
   obtain⟨v',h2,q1,q2,q3,q4,q5,q6⟩:=ho1.app (by omega) (z:=1) (.int .u8 b) rfl (by simp [roomy];omega)
   have hal2:h1.get h.next=some [.int .u8 b]:=by rw[eh1,H.aW,if_pos rfl]
   have gs1:h1.get c.s=some [.aE c.r 0,ov,I c.most,I S.e]:=by rw[hlo1 _ (by omega)];exact st.gs
   have gs2:h2.get c.s=some [.aE c.r 0,ov,I c.most,I S.e]:=by rw[q5 _ st.os (by omega)];exact gs1
   have gr2:h2.get c.r=some [.str c.text,I S.at_]:=by rw[q5 _ st.or (by omega),hlo1 _ (by omega)];exact st.gr
   have fs2:h2.floor≤c.s:=by have:=st.fs;omega
   have hv':v'.cells=[v']∧v'.sc=true:=by
    rcases q2 with ⟨rfl,_⟩|⟨id,rfl,_⟩<;>exact⟨rfl,rfl⟩
   have hby:yI (S.out++[b])=yI S.out++[.int .u8 b]:=by simp [yI]
   refine⟨h2.set c.s [.aE c.r 0,v',I c.most,I S.e],v', ?_, ?_, ?_⟩
   · refine xb (fn:=AP.f59) (e:=[]) rfl rfl rfl ?_ rfl
     simp only[I]at *
     simp [AP.f59,params,aL,aw,aN,aj,ai,bn,aY,dJ,dR,kS,aS,gs0,ln,hm,he,←eh1,hal2,gs1,q1,gs2,fs2,hv'.1,hv'.2]
   · rw[hp]
     refine⟨by rw[H.dw,if_pos rfl,gs2];rfl,by rw[H.dw,if_neg (Ne.symm st.sr)];exact gr2, ?_,st.sr,by simpa using fs2,by have:=st.fr;simp;omega, ?_, ?_,by simp;omega,st.sz,st.Aa,by simp;omega,st.ml⟩
     · rw[hby]
       refine q2.mono (by simp) fun i hi=> ?_
       rw[q6]at hi;cases hi
       rw[H.dw,if_neg (by omega)]
     · rw[q6];intro e;have:=vm e;omega
     · rw[q6];intro e;have:=vm e;omega
   · refine⟨by simp;omega,by simp;omega,fun id a1 a2 a3 a4=> ?_,fun i hi=> ?_⟩
     · rw[H.dw,if_neg a2,q5 id a4 (by omega),hlo1 id (by omega)]
     · rw[q6]at hi;cases hi;right;omega
 · have hp:Ew c b S=S:=by unfold Ew;simp only[if_neg hm,if_neg he]
   refine⟨h,ov, ?_,by rw[hp];exact st,Fr.refl _ _ _⟩
   refine xb (fn:=AP.f59) (e:=[]) rfl rfl rfl ?_ rfl
   simp only[I]at *
   simp [AP.f59,params,aL,aw,aN,aj,ai,gs0,ln,hm,he]
theorem T8 (h:H) (s:ByteArray):aR AP.A 14 [.str s] h=some (.aE h.next 0,h.alloc [.str s,I 0]):=by
 refine um (fn:=AP.f14) (e:=[(2,.aE h.next 0)]) rfl rfl rfl ?_ rfl
 have b:aY [(4,.agg [.str s,I 0]),(3,.str s),(0,.str s)] (.box 2 (.t 4))=some ([.str s,I 0],fun i=>.aE i 0):=rfl
 have f:dR [.str ⟨#[]⟩,.int .i64 0] [(0,1,.str s)]=some [.str s,I 0]:=rfl
 simp only[I]at *
 simp only[AP.f14,go_sem,VK,Wk,f,b]
theorem MP (h:H) (r:Nat) (s:ByteArray) (p:Nat) (hg:h.get r=some [.str s,I p]) (hf:h.floor≤r) (hs:s.size<1125899906842624) (hp:p≤8* s.size):
 aR AP.A 16 [.aE r 0] h=some (I 0,h.set r [.str s,I ((p+7)/8* 8:Nat)]):=by
 refine um (fn:=AP.f16) (e:=[(2,I 0)]) rfl rfl rfl ?_ rfl
 have w1:IntKind.wrap .i64 ((p:Int)+8)=((p+8:Nat):Int):=vZ (n:=p+8) (by omega)
 have w2:IntKind.wrap .i64 (((p+8:Nat):Int)-1)=((p+7:Nat):Int):=by
  rw[show((p+8:Nat):Int)-1=((p+7:Nat):Int)by omega];exact vZ (by omega)
 have w3:IntKind.wrap .i64 (((p+7:Nat):Int).tdiv 8)=(((p+7)/8:Nat):Int):=by
  rw[show(8:Int)=((8:Nat):Int)from rfl,zf];exact vZ (by omega)
 have w4:IntKind.wrap .i64 ((((p+7)/8:Nat):Int)* 8)=(((p+7)/8* 8:Nat):Int):=by
  rw[show(((p+7)/8:Nat):Int)* 8=(((p+7)/8* 8:Nat):Int)by omega];exact vZ (by omega)
 have st:∀v,uN h r 1 1 [.int .i64 v] (some [.str s,.int .i64 p])=some (h.set r [.str s,.int .i64 v]):=fun v=>u7 hf (by simp) rfl
 have q:bj .quo (.int .i64 ((p+7:Nat):Int)) (.int .i64 8)=some (.int .i64 (((p+7)/8:Nat):Int)):=by rw[sK _ _ _ (by omega),w3]
 simp only[I]at *
 simp only[AP.f16,go_sem,hg,w1,w2,q,w4,st]
theorem Tt (h:H) (r:Nat) (s:ByteArray) (p:Nat) (hg:h.get r=some [.str s,I p]):aR AP.A 17 [.aE r 0] h=some (I p,h):=by
 refine um (fn:=AP.f17) (e:=[(2,I p)]) rfl rfl rfl ?_ rfl
 simp only[I]at *
 simp only[AP.f17,go_sem,hg]
theorem Ak {c:SC} {S:SS} {h:H} {ov:AV} (st:St c S h ov) (n:Nat) (m:Int) (hm:m=n) (hn:n≤16):∃h',aR AP.A 38 [.aE c.s 0,I m] h=some (I ((wm c n S).1:Nat),h')∧St c (wm c n S).2 h' ov∧Fr c h ov h' ov:=by
 subst hm;exact Lx st hn
theorem JY {c:SC} {S:SS} {h:H} {ov:AV} (st:St c S h ov) {n least:Nat} (hn:n≤16) (hl:least<100000):∃h',aR AP.A 73 [.aE c.s 0,I least,I n,I 0] h=some (I ((least+(wm c n S).1:Nat)),h')∧St c (wm c n S).2 h' ov∧Fr c h ov h' ov:=by
 obtain⟨h',k1,k2,k3⟩:=Lx st hn
 refine⟨h', ?_,k2,k3⟩
 have hb:(wm c n S).1<65536:=by
  unfold wm;split
  · have:=yg c.text S.at_ n
    have:=VO (show 0<2 by omega) hn
    simp at *;omega
  · simp
 have w:IntKind.wrap .i64 ((least:Int)+((wm c n S).1:Nat))=((least+(wm c n S).1:Nat):Int):=by
  rw[show(least:Int)+((wm c n S).1:Nat)=((least+(wm c n S).1:Nat):Int)by omega];exact vZ (by omega)
 refine um (fn:=AP.f73) (e:=[(8,I ((least+(wm c n S).1:Nat)))]) rfl rfl rfl ?_ rfl
 simp only[I]at *
 simp only[AP.f73,go_sem,k1,w]
theorem F0 {c:SC} {S:SS} {h:H} {ov:AV} (st:St c S h ov) (he:S.e=0):∃h' S',aR AP.A 73 [.aE c.s 0,I 0,I 0,I 600] h=some (I 0,h')∧St c S' h' ov∧Fr c h ov h' ov∧S'.e=700:=by
 obtain⟨h1,k1,k2,k3⟩:=yz st 700
 obtain⟨h',l1,l2,l3⟩:=Lx k2 (n:=0) (by omega)
 have hS:wQ 700 S={S with e:=700}:=by rw[wQ,if_pos he]
 have hle:=st.Aa
 have hg:wm c 0 (wQ 700 S)=(0,wQ 700 S):=by
  rw[wm,if_pos (by rw[hS];exact hle)];rfl
 rw[hg]at l1 l2
 have l1':aR AP.A 38 [.aE c.s 0,I 0] h1=some (I 0,h'):=l1
 clear l1
 refine⟨h',_, ?_,l2,k3.trans l3,by rw[hS]⟩
 have w:IntKind.wrap .i64 (0+0)=0:=uw (by omega) (by omega)
 refine um (fn:=AP.f73) (e:=[(8,I 0)]) rfl rfl rfl ?_ rfl
 simp only[I]at *
 simp only[AP.f73,go_sem,k1,l1',w]
def Av (t:ByteArray) (l:List Int):Nat→Nat→Nat→Nat→Option (Int×Nat)
 |0,_,_,_=>none
 |k+1,n,v,p=>if p+1≤8* t.size then(match yQ l n ((v* 2+wz t p 1:Nat):Int)with|some y=>some (y,p+1)|none=>Av t l k (n+1) (v* 2+wz t p 1) (p+1))else none
theorem Ij {c:SC} {S:SS} {h:H} {ov:AV} (st:St c S h ov) (l:List Int) (v n:Nat) (hs:n=16∨(n≤15∧S.e≠0)):
 ∃e',Lp AP.A [0,1,5,6] AP.f60L0 [(0,.aE c.s 0),(1,wN l),(5,I v),(6,I n)] h=some (.exit 0,e',h)∧look e' 0=.aE c.s 0:=by
 have gs:=st.gs
 refine⟨[(0,.aE c.s 0),(1,wN l),(5,I v),(6,I n),(17,.bool false)],tW ?_,rfl⟩
 rcases hs with hn|⟨hn,he⟩
 · have c1:¬(n:Int)≤15:=by omega
   simp only[I]at *
   simp only[AP.f60L0,go_sem,VD c1]
 · have c1:(n:Int)≤15:=by omega
   have c2:(S.e==0)=false:=uR he
   simp only[I]at *
   simp only[AP.f60L0,go_sem,VE c1,gs,c2]
theorem Ii {c : SC} (l : List Int) (hl : l.length < 100000) : ∀ (k n v : Nat) (S : SS) (h : H) (ov : AV), n + k = 16 → 1 ≤ n → v < 2 ^ (n - 1) → St c S h ov → S.e = 0 →
 ∃ h' S', St c S' h' ov ∧ Fr c h ov h' ov ∧ match Av c.text l k n v S.at_ with
   |some (y,p)=>S'={S with at_:=p}∧∃e',Lp AP.A [0,1,5,6] AP.f60L0 [(0,.aE c.s 0),(1,wN l),(5,I v),(6,I n)] h=some (.ret,e',h')∧look e' 4=I y
   |none=>(S'.e=0∨S'.e=700)∧∃e',Lp AP.A [0,1,5,6] AP.f60L0 [(0,.aE c.s 0),(1,wN l),(5,I v),(6,I n)] h=some (.exit 0,e',h')∧look e' 0=.aE c.s 0
 | 0, n, v, S, h, ov, hk, hn, hv, st, he => by
   obtain⟨e',q1,q2⟩:=Ij st l v n (.inl (by omega))
   exact⟨h,S,st,Fr.refl _ _ _,by simp only[Av];exact⟨.inl he,e',q1,q2⟩⟩
 | k + 1, n, v, S, h, ov, hk, hn, hv, st, he => by
   have gs:=st.gs
   obtain⟨h1,k1,k2,k3⟩:=Ak st 1 1 rfl (by omega)
   obtain⟨x,hx⟩:∃x,x=(wm c 1 S).1:=⟨_,rfl⟩
   obtain⟨S1,hS1⟩:∃x,x=(wm c 1 S).2:=⟨_,rfl⟩
   rw[←hx]at k1;rw[←hS1]at k2
   have hp:2^n≤2^15:=VO (by omega) (by omega)
   have h2:2^(n-1+1)=2^(n-1)* 2:=Nat.pow_succ 2 (n-1)
   rw[show n-1+1=n by omega]at h2
   obtain⟨P,hP⟩:∃P:Nat,P=2^(n-1):=⟨_,rfl⟩
   rw[←hP]at h2 hv
   obtain⟨Q,hQ⟩:∃Q:Nat,Q=2^n:=⟨_,rfl⟩
   rw[←hQ]at h2 hp
   simp only[Nat.reducePow]at hp
   have hx1:x<2:=by
    rw[hx];unfold wm;split
    · have:=yg c.text S.at_ 1;simpa using this
    · simp
   have hv':v* 2+x<Q:=by omega
   have w1:IntKind.wrap .i64 ((v:Int)* 2)=((v* 2:Nat):Int):=by
    rw[show(v:Int)* 2=((v* 2:Nat):Int)by omega];exact vZ (by omega)
   have w2:IntKind.wrap .i64 (((v* 2:Nat):Int)+(x:Int))=((v* 2+x:Nat):Int):=by
    rw[show((v* 2:Nat):Int)+(x:Int)=((v* 2+x:Nat):Int)by omega];exact vZ (by omega)
   have w3:IntKind.wrap .i64 ((n:Int)+1)=((n+1:Nat):Int):=vZ (n:=n+1) (by omega)
   have c1:(n:Int)≤15:=by omega
   have fc:=Pe h1 l hl n hn (by omega) ((v* 2+x:Nat):Int) (by omega) (by omega)
   have gs1:=k2.gs
   have step:(yQ l n ((v* 2+x:Nat):Int)=none∨S1.e≠0)→aL (aR AP.A) bp AP.f60L0 (ay [(0,.aE c.s 0),(1,wN l),(5,I v),(6,I n)] [0,1,5,6]) h=some (.normal,[(0,.aE c.s 0),(1,wN l),(5,I (v* 2+x:Nat)),(6,I (n+1:Nat))],h1):=by
    intro hc
    rcases hc with hc|hc
    · rw[hc]at fc
      simp only[I]at *
      simp only[AP.f60L0,go_sem,VE c1,gs,he,k1,w1,w2,fc,w3]
    · have c2:(S1.e==0)=false:=uR hc
      cases hf:yQ l n ((v* 2+x:Nat):Int)with
      | none =>
        rw[hf]at fc
        simp only[I]at *
        simp only[AP.f60L0,go_sem,VE c1,gs,he,k1,w1,w2,fc,w3]
      | some y =>
        rw[hf]at fc
        simp only[I]at *
        simp only[AP.f60L0,go_sem,VE c1,gs,he,k1,w1,w2,fc,w3,gs1,c2]
   by_cases hat:S.at_+1≤8* c.text.size
   · have eg:wm c 1 S=(wz c.text S.at_ 1,{S with at_:=S.at_+1}):=by rw[wm,if_pos hat]
     rw[eg]at hx hS1
     dsimp only at hx hS1
     subst hx hS1
     rw[Av,if_pos hat]
     cases hf:yQ l n ((v* 2+wz c.text S.at_ 1:Nat):Int)with
     | none =>
       obtain⟨h',S',q1,q2,q3⟩:=Ii l hl k (n+1) (v* 2+wz c.text S.at_ 1) _ h1 ov (by omega) (by omega) (by rw[Nat.add_sub_cancel,←hQ];exact hv') k2 he
       refine⟨h',S',q1,k3.trans q2, ?_⟩
       dsimp only at q3 ⊢
       have sp:=step (.inl hf)
       cases hy:Av c.text l k (n+1) (v* 2+wz c.text S.at_ 1) (S.at_+1)with
       | none =>
         rw[hy]at q3
         obtain⟨q3,e',q4,q5⟩:=q3
         exact⟨q3,e',tX sp q4,q5⟩
       | some y =>
         rw[hy]at q3
         obtain⟨q3,e',q4,q5⟩:=q3
         exact⟨q3,e',tX sp q4,q5⟩
     | some y =>
       refine⟨h1,_,k2,k3,rfl,[(4,I y)],uz ?_,rfl⟩
       rw[hf]at fc
       simp only[I]at *
       simp only[AP.f60L0,go_sem,VE c1,gs,he,k1,w1,w2,fc,w3,gs1]
   · have eg:wm c 1 S=(0,{S with e:=700}):=by rw[wm,if_neg hat,wQ,if_pos he]
     rw[eg]at hx hS1
     dsimp only at hx hS1
     subst hx hS1
     rw[Av,if_neg hat]
     have hst:n+1=16∨(n+1≤15∧(700:Int)≠0):=by omega
     obtain⟨e',q1,q2⟩:=Ij k2 l (v* 2+0) (n+1) hst
     exact⟨h1,_,k2,k3,.inr rfl,e',tX (step (.inr (by simp))) q1,q2⟩
theorem EI {c:SC} {S:SS} {h:H} {ov:AV} (l:List Int) (hl:l.length<100000) (st:St c S h ov) (he:S.e=0):
 ∃ h' S' y, aR AP.A 60 [.aE c.s 0, wN l] h = some (I y, h') ∧ St c S' h' ov ∧ Fr c h ov h' ov ∧ match Av c.text l 15 1 0 S.at_ with
   |some (z,p)=>S'={S with at_:=p}∧y=z
   |none=>S'.e=700∧y=256:=by
 obtain⟨h1,S1,q1,q2,q3⟩:=Ii l hl 15 1 0 S h ov (by omega) (by omega) (by simp) st he
 cases hy:Av c.text l 15 1 0 S.at_ with
 | some yp =>
   rw[hy]at q3
   obtain⟨q3,e',q4,q5⟩:=q3
   refine⟨h1,S1,yp.1, ?_,q1,q2,q3,rfl⟩
   refine um (fn:=AP.f60) (e:=e') (vs:=[I yp.1]) rfl rfl rfl ?_ (by simp only[AP.f60,cu,nM,q5];rfl)
   have q6:Lp AP.A [0,1,5,6] AP.f60L0 [(0,.aE c.s 0),(1,wN l),(5,I 0),(6,I 1)] h=some (.ret,e',h1):=q4
   clear q4
   simp only[I]at *
   simp only[AP.f60,go_sem,sX,q6]
 | none =>
   rw[hy]at q3
   obtain⟨q3,e',q4,q5⟩:=q3
   obtain⟨h2,r1,r2,r3⟩:=yz q1 700
   refine⟨h2,wQ 700 S1,256, ?_,r2,q2.trans r3, ?_,rfl⟩
   · refine um (fn:=AP.f60) (e:=[(4,I 256)]) rfl rfl rfl ?_ rfl
     have q6:Lp AP.A [0,1,5,6] AP.f60L0 [(0,.aE c.s 0),(1,wN l),(5,I 0),(6,I 1)] h=some (.exit 0,e',h1):=q4
     clear q4
     simp only[I]at *
     simp only[AP.f60,go_sem,sX,q6,q5,r1]
   · rcases q3 with q3|q3<;>simp [wQ,q3]
def lenOf (y:Nat):Option (Nat×Nat):=
 if y≤256∨285<y then none else if y=285 then some (258,0)else if y<265 then some (y-254,0)else some (3+(4+(y-257)%4)* 2^((y-257)/4-1),(y-257)/4-1)
def wI (y:Nat):Option (Nat×Nat):=
 if 30≤y then none else if y<4 then some (1+y,0)else some (1+(2+y%2)* 2^(y/2-1),y/2-1)
theorem Ct {y a b:Nat} (h:lenOf y=some (a,b)):a≤258∧b≤5∧0<a:=by
 have key:∀y<286,∀a b,lenOf y=some (a,b)→a≤258∧b≤5∧0<a:=by
  intro y hy a b h
  have:((lenOf y).map fun p=>decide (p.1≤258∧p.2≤5∧0<p.1))=(lenOf y).map fun _=>true:=by
   clear h
   revert y
   decide+kernel
  rw[h]at this
  simpa using this
 by_cases hy:y<286
 · exact key y hy a b h
 · rw[lenOf,if_pos (by omega)]at h;cases h
theorem Bp {y a b:Nat} (h:wI y=some (a,b)):a≤24577∧b≤13∧0<a:=by
 have key:∀y<30,∀a b,wI y=some (a,b)→a≤24577∧b≤13∧0<a:=by
  intro y hy a b h
  have:((wI y).map fun p=>decide (p.1≤24577∧p.2≤13∧0<p.1))=(wI y).map fun _=>true:=by
   clear h
   revert y
   decide+kernel
  rw[h]at this
  simpa using this
 by_cases hy:y<30
 · exact key y hy a b h
 · rw[wI,if_pos (by omega)]at h;cases h
def Bm (o:Option (Nat×Nat)):AV:=match o with
 |some p=>.bL [I p.1,I p.2,I 0]
 |none=>.bL [I 0,I 0,I 600]
theorem JA (h:H) (y:Nat) (hy:y<1000000):aR AP.A 74 [I y] h=some (Bm (lenOf y),h):=by
 have d1:decide ((y:Int)≤256)=decide (y≤256):=by by_cases q:y≤256<;>simp [q]<;>omega
 have w1:IntKind.wrap .i64 ((y:Int)-256)=(y:Int)-256:=uw (by omega) (by omega)
 have w2:IntKind.wrap .i64 ((y:Int)-256-1)=(y:Int)-257:=by rw[show(y:Int)-256-1=(y:Int)-257 by omega];exact uw (by omega) (by omega)
 by_cases c1:y≤256
 · rw[lenOf,if_pos (.inl c1)]
   refine uL (fn:=AP.f74) (h2:=h.dQ) (e:=[(2,I 0),(3,I 0),(4,I 600)]) rfl rfl rfl ?_ rfl rfl
   have c1':(y:Int)≤256:=by omega
   simp only[I]at *
   simp only[AP.f74,go_sem,w1,w2,VE c1']
 have c1':¬(y:Int)≤256:=by omega
 by_cases c2:285<y
 · rw[lenOf,if_pos (.inr c2)]
   refine uL (fn:=AP.f74) (h2:=h.dQ) (e:=[(2,I 0),(3,I 0),(4,I 600)]) rfl rfl rfl ?_ rfl rfl
   have c2':(285:Int)<y:=by omega
   simp only[I]at *
   simp only[AP.f74,go_sem,w1,w2,VD c1',VE c2']
 have c2':¬(285:Int)<y:=by omega
 rw[lenOf,if_neg (by omega)]
 by_cases c3:y=285
 · rw[if_pos c3]
   refine uL (fn:=AP.f74) (h2:=h.dQ) (e:=[(2,I 258),(3,I 0),(4,I 0)]) rfl rfl rfl ?_ rfl rfl
   have c3':((y:Int)==285)=true:=uS (by omega)
   simp only[I]at *
   simp only[AP.f74,go_sem,w1,w2,VD c1',VD c2',c3']
 rw[if_neg c3]
 have c3':((y:Int)==285)=false:=uR (by omega)
 by_cases c4:y<265
 · rw[if_pos c4]
   refine uL (fn:=AP.f74) (h2:=h.dQ) (e:=[(2,I (y-254:Nat)),(3,I 0),(4,I 0)]) rfl rfl rfl ?_ rfl rfl
   have c4':(y:Int)-257<8:=by omega
   have w3:IntKind.wrap .i64 (3+((y:Int)-257))=((y-254:Nat):Int):=by rw[show 3+((y:Int)-257)=((y-254:Nat):Int)by omega];exact vZ (by omega)
   simp only[I]at *
   simp only[AP.f74,go_sem,w1,w2,VD c1',VD c2',c3',VE c4',w3]
 rw[if_neg c4]
 have c4':¬(y:Int)-257<8:=by omega
 obtain⟨k,hk⟩:∃k:Nat,(y:Int)-257=k:=VF (by omega)
 have hk':y-257=k:=by omega
 rw[hk]at w2 c4'
 rw[hk']
 have q1:bj .quo (.int .i64 (k:Int)) (.int .i64 4)=some (.int .i64 ((k/4:Nat):Int)):=by
  rw[sK _ _ _ (by omega),show(4:Int)=((4:Nat):Int)from rfl,zf,vZ (by omega)]
 have q2:bj .rem (.int .i64 (k:Int)) (.int .i64 4)=some (.int .i64 ((k%4:Nat):Int)):=by
  rw[sM _ _ _ (by omega),show(4:Int)=((4:Nat):Int)from rfl,Bi]
 have w3:IntKind.wrap .i64 (((k/4:Nat):Int)-1)=((k/4-1:Nat):Int):=by rw[show((k/4:Nat):Int)-1=((k/4-1:Nat):Int)by omega];exact vZ (by omega)
 have w4:IntKind.wrap .i64 (4+((k%4:Nat):Int))=((4+k%4:Nat):Int):=by rw[show 4+((k%4:Nat):Int)=((4+k%4:Nat):Int)by omega];exact vZ (by omega)
 have hp:2^(k/4-1)≤2^5:=VO (by omega) (by omega)
 have hm:(4+k%4)* 2^(k/4-1)≤7* 2^5:=Wn (by omega) hp
 have q3:pP .shl .i64 ((4+k%4:Nat):Int) ((k/4-1:Nat):Int)=some (.int .i64 (((4+k%4)* 2^(k/4-1):Nat):Int)):=yL (by omega) (by omega)
 generalize (4+k%4)* 2^(k/4-1)=P at *
 have w5:IntKind.wrap .i64 (3+(P:Int))=((3+P:Nat):Int):=by rw[show 3+(P:Int)=((3+P:Nat):Int)by omega];exact vZ (by omega)
 refine uL (fn:=AP.f74) (h2:=h.dQ) (e:=[(2,I (3+P:Nat)),(3,I (k/4-1:Nat)),(4,I 0)]) rfl rfl rfl ?_ rfl rfl
 simp only[I]at *
 simp only[AP.f74,go_sem,w1,w2,VD c1',VD c2',c3',VD c4',q1,q2,w3,w4,q3,w5]
theorem Hi (h:H) (y:Nat) (hy:y<1000000):aR AP.A 75 [I y] h=some (Bm (wI y),h):=by
 have c0:¬(y:Int)<0:=by omega
 by_cases c1:30≤y
 · rw[wI,if_pos c1]
   refine uL (fn:=AP.f75) (h2:=h.dQ) (e:=[(2,I 0),(3,I 0),(4,I 600)]) rfl rfl rfl ?_ rfl rfl
   have c1':(30:Int)≤y:=by omega
   simp only[I]at *
   simp only[AP.f75,go_sem,VD c0,VE c1']
 have c1':¬(30:Int)≤y:=by omega
 rw[wI,if_neg c1]
 by_cases c2:y<4
 · rw[if_pos c2]
   refine uL (fn:=AP.f75) (h2:=h.dQ) (e:=[(2,I (1+y:Nat)),(3,I 0),(4,I 0)]) rfl rfl rfl ?_ rfl rfl
   have c2':(y:Int)<4:=by omega
   have w3:IntKind.wrap .i64 (1+(y:Int))=((1+y:Nat):Int):=by rw[show 1+(y:Int)=((1+y:Nat):Int)by omega];exact vZ (by omega)
   simp only[I]at *
   simp only[AP.f75,go_sem,VD c0,VD c1',VE c2',w3]
 rw[if_neg c2]
 have c2':¬(y:Int)<4:=by omega
 have q1:bj .quo (.int .i64 (y:Int)) (.int .i64 2)=some (.int .i64 ((y/2:Nat):Int)):=by
  rw[sK _ _ _ (by omega),show(2:Int)=((2:Nat):Int)from rfl,zf,vZ (by omega)]
 have q2:bj .rem (.int .i64 (y:Int)) (.int .i64 2)=some (.int .i64 ((y%2:Nat):Int)):=by
  rw[sM _ _ _ (by omega),show(2:Int)=((2:Nat):Int)from rfl,Bi]
 have w3:IntKind.wrap .i64 (((y/2:Nat):Int)-1)=((y/2-1:Nat):Int):=by rw[show((y/2:Nat):Int)-1=((y/2-1:Nat):Int)by omega];exact vZ (by omega)
 have w4:IntKind.wrap .i64 (2+((y%2:Nat):Int))=((2+y%2:Nat):Int):=by rw[show 2+((y%2:Nat):Int)=((2+y%2:Nat):Int)by omega];exact vZ (by omega)
 have hp:2^(y/2-1)≤2^13:=VO (by omega) (by omega)
 have hm:(2+y%2)* 2^(y/2-1)≤3* 2^13:=Wn (by omega) hp
 have q3:pP .shl .i64 ((2+y%2:Nat):Int) ((y/2-1:Nat):Int)=some (.int .i64 (((2+y%2)* 2^(y/2-1):Nat):Int)):=yL (by omega) (by omega)
 generalize (2+y%2)* 2^(y/2-1)=P at *
 have w5:IntKind.wrap .i64 (1+(P:Int))=((1+P:Nat):Int):=by rw[show 1+(P:Int)=((1+P:Nat):Int)by omega];exact vZ (by omega)
 refine uL (fn:=AP.f75) (h2:=h.dQ) (e:=[(2,I (1+P:Nat)),(3,I (y/2-1:Nat)),(4,I 0)]) rfl rfl rfl ?_ rfl rfl
 simp only[I]at *
 simp only[AP.f75,go_sem,VD c0,VD c1',VD c2',q1,q2,w3,w4,q3,w5]
abbrev Rs:=Except Int (Nat×List Nat)
def Fin (r:Rs) (S:SS):Prop:=match r with
 | .ok q=>S=⟨q.1,q.2,0⟩
 | .error k=>S.e=k∧k≠0
theorem GD {c:SC} {S:SS} (b:Nat) (he:S.e=0) (hm:¬c.most≤S.out.length):Ew c b S=⟨S.at_,S.out++[b],0⟩:=by
 simp only[Ew,if_neg hm,he,if_true]
theorem C5 {c:SC} {S:SS} (b:Nat) (he:S.e=0) (hm:c.most≤S.out.length):(Ew c b S).e=701:=by
 simp [Ew,hm,wQ,he]
def z9 (t:ByteArray) (most:Int):Nat→Nat→List Nat→Rs
 |0,p,out=>.ok (p,out)
 |n+1,p,out=>if p+8≤8* t.size then(if most≤out.length then .error 701 else z9 t most n (p+8) (out++[wz t p 8]))else .error 700
theorem zO {c:SC} {S:SS} {h:H} {ov:AV} (st:St c S h ov) (n:Nat) (hs:n=0∨S.e≠0):
 ∃e',Lp AP.A [0,2] AP.f39L0 [(0,.aE c.s 0),(2,I n)] h=some (.exit 0,e',h):=by
 have gs:=st.gs
 refine⟨[(0,.aE c.s 0),(2,I n),(26,.bool false)],tW ?_⟩
 by_cases hn:n=0
 · have c1:¬(0:Int)<n:=by omega
   simp only[I]at *
   simp only[AP.f39L0,go_sem,VD c1]
 · have c1:(0:Int)<n:=by omega
   have c2:(S.e==0)=false:=uR (by omega)
   simp only[I]at *
   simp only[AP.f39L0,go_sem,VE c1,gs,c2]
theorem EG {c : SC} : ∀ (n : Nat) (S : SS) (h : H) (ov : AV), St c S h ov → S.e = 0 → n ≤ 65535 →
 ∃e' h' ov' S',Lp AP.A [0,2] AP.f39L0 [(0,.aE c.s 0),(2,I n)] h=some (.exit 0,e',h')∧St c S' h' ov'∧Fr c h ov h' ov'∧Fin (z9 c.text c.most n S.at_ S.out) S'
 | 0, S, h, ov, st, he, hn => by
   obtain⟨e',q⟩:=zO st 0 (.inl rfl)
   exact⟨e',h,ov,S,q,st,Fr.refl _ _ _,by simp only[z9,Fin];cases S;simp_all⟩
 | n + 1, S, h, ov, st, he, hn => by
   have gs:=st.gs
   obtain⟨h1,k1,k2,k3⟩:=Ak st 8 8 rfl (by omega)
   have gs1:=k2.gs
   have c1:(0:Int)<((n+1:Nat):Int):=by omega
   have w1:IntKind.wrap .i64 (((n+1:Nat):Int)-1)=(n:Int):=by rw[show((n+1:Nat):Int)-1=(n:Int)by omega];exact vZ (by omega)
   by_cases hp:S.at_+8≤8* c.text.size
   · have eg:wm c 8 S=(wz c.text S.at_ 8,{S with at_:=S.at_+8}):=by rw[wm,if_pos hp]
     rw[eg]at k1 k2 gs1
     dsimp only at k1 k2 gs1
     obtain⟨h2,ov2,p1,p2,p3⟩:=Mf k2 (b:=wz c.text S.at_ 8)
     have hb:=yg c.text S.at_ 8
     have w2:IntKind.wrap .u8 ((wz c.text S.at_ 8:Nat):Int)=((wz c.text S.at_ 8:Nat):Int):=wrap_u8 (by simpa using hb)
     have step:aL (aR AP.A) bp AP.f39L0 (ay [(0,.aE c.s 0),(2,I (n+1:Nat))] [0,2]) h=some (.normal,[(0,.aE c.s 0),(2,I n)],h2):=by
      simp only[I]at *
      simp only[AP.f39L0,go_sem,VE c1,gs,he,k1,gs1,w2,p1,w1]
     rw[z9,if_pos hp]
     by_cases hm:c.most≤S.out.length
     · rw[if_pos hm]
       have hl:=C5 (c:=c) (S:={S with at_:=S.at_+8}) (wz c.text S.at_ 8) he hm
       obtain⟨e',q⟩:=zO p2 n (.inr (by rw[hl];decide))
       exact⟨e',h2,ov2,_,tX step q,p2,k3.trans p3,hl,by decide⟩
     · rw[if_neg hm]
       rw[GD (S:={S with at_:=S.at_+8}) _ he hm]at p2
       obtain⟨e',h',ov',S',q1,q2,q3,q4⟩:=EG n _ h2 ov2 p2 rfl (by omega)
       exact⟨e',h',ov',S',tX step q1,q2,(k3.trans p3).trans q3,q4⟩
   · have eg:wm c 8 S=(0,{S with e:=700}):=by rw[wm,if_neg hp,wQ,if_pos he]
     rw[eg]at k1 k2 gs1
     dsimp only at k1 k2 gs1
     have step:aL (aR AP.A) bp AP.f39L0 (ay [(0,.aE c.s 0),(2,I (n+1:Nat))] [0,2]) h=some (.normal,[(0,.aE c.s 0),(2,I n)],h1):=by
      simp only[I]at *
      simp only[AP.f39L0,go_sem,VE c1,gs,he,k1,gs1,w1]
     rw[z9,if_neg hp]
     obtain⟨e',q⟩:=zO k2 n (.inr (by simp))
     exact⟨e',h1,ov,_,tX step q,k2,k3,rfl,by decide⟩
def DM (t:ByteArray) (most:Int) (p0:Nat) (out:List Nat):Rs:=
 let p:=(p0+7)/8* 8
 if p+32≤8* t.size then(if wz t p 16+wz t (p+16) 16=65535 then z9 t most (wz t p 16) (p+32) out else .error 700)else .error 700
theorem MK {n:Nat} (hn:n<65536):bits .xor .i64 (n:Int) 65535=((65535-n:Nat):Int):=by
 have h1:n<2^16:=by simpa using hn
 show IntKind.wrap .i64 (((BitVec.ofInt 64 (n:Int)^^^BitVec.ofInt 64 ((65535:Nat):Int)).toNat:Nat):Int)=_
 rw[BitVec.toNat_xor,zD 64 n (by omega),zD 64 65535 (by omega)]
 have h2:n^^^65535=65535-n:=by
  have:65535-n=2^16-(n+1):=by omega
  rw[this]
  apply Nat.eq_of_testBit_eq
  intro i
  rw[Nat.testBit_two_pow_sub_succ h1,Nat.testBit_xor,show 65535=2^16-1 from rfl,Nat.testBit_two_pow_sub_one]
  by_cases hi:i<16
  · simp [hi]
  · have:n.testBit i=false:=Nat.testBit_lt_two_pow (Nat.lt_of_lt_of_le h1 (VO (by omega) (by omega)))
    simp [hi,this]
 rw[h2];exact vZ (by omega)
theorem St.align {c:SC} {S:SS} {h:H} {ov:AV} (st:St c S h ov):∃h',aR AP.A 16 [.aE c.r 0] h=some (I 0,h')∧St c {S with at_:=(S.at_+7)/8* 8} h' ov∧Fr c h ov h' ov:=by
 have hle:=st.Aa
 have:=st.Qy (p:=(S.at_+7)/8* 8) (by omega)
 exact⟨_,MP h c.r c.text S.at_ st.gr st.fr st.sz st.Aa,this.1,this.2⟩
theorem Mx {c : SC} {S : SS} {h : H} {ov : AV} (st : St c S h ov) (he : S.e = 0) :
 ∃h' ov' S',aR AP.A 39 [.aE c.s 0] h=some (.bL [],h')∧St c S' h' ov'∧Fr c h ov h' ov'∧Fin (DM c.text c.most S.at_ S.out) S':=by
 have gs:=st.gs
 obtain⟨h1,a1,a2,a3⟩:=st.align
 obtain⟨p,hp⟩:∃p,p=(S.at_+7)/8* 8:=⟨_,rfl⟩
 rw[←hp]at a2
 have hS:DM c.text c.most S.at_ S.out=if p+32≤8* c.text.size then(if wz c.text p 16+wz c.text (p+16) 16=65535 then z9 c.text c.most (wz c.text p 16) (p+32) S.out else .error 700)else .error 700:=by
  rw[hp];rfl
 rw[hS];clear hS
 obtain⟨h2,b1,b2,b3⟩:=Ak a2 16 16 rfl (by omega)
 obtain⟨h3,d1,d2,d3⟩:=Ak b2 16 16 rfl (by omega)
 obtain⟨n,hn⟩:∃n,n=(wm c 16 {S with at_:=p}).1:=⟨_,rfl⟩
 obtain⟨S2,hS2⟩:∃n,n=(wm c 16 {S with at_:=p}).2:=⟨_,rfl⟩
 obtain⟨m,hm⟩:∃n,n=(wm c 16 S2).1:=⟨_,rfl⟩
 obtain⟨S3,hS3⟩:∃n,n=(wm c 16 S2).2:=⟨_,rfl⟩
 rw[←hn]at b1;rw[←hS2]at b2 d1 d2;rw[←hm]at d1;rw[←hS3]at d2
 have hn16:n<65536:=by
  rw[hn];unfold wm;split
  · simpa using yg c.text p 16
  · simp
 have x1:=MK hn16
 by_cases hx:m=65535-n
 · have c1:((m:Int) !=((65535-n:Nat):Int))=false:=uT (by omega)
   have fin:∀e' h',Lp AP.A [0,2] AP.f39L0 [(0,.aE c.s 0),(2,I n)] h3=some (.exit 0,e',h')→aR AP.A 39 [.aE c.s 0] h=some (.bL [],h'):=by
    intro e' h' q
    refine xb (fn:=AP.f39) (e:=[]) rfl rfl rfl ?_ rfl
    simp only[I]at *
    simp only[AP.f39,go_sem,sX,gs,a1,b1,d1,x1,c1,q]
   by_cases h32:p+32≤8* c.text.size
   · have e2:wm c 16 {S with at_:=p}=(wz c.text p 16,{S with at_:=p+16}):=by rw[wm,if_pos (by show p+16≤_;omega)]
     rw[e2]at hn hS2;dsimp only at hn hS2;subst hS2
     have e3:wm c 16 {S with at_:=p+16}=(wz c.text (p+16) 16,{S with at_:=p+16+16}):=by rw[wm,if_pos (by show p+16+16≤_;omega)]
     rw[e3]at hm hS3;dsimp only at hm hS3;subst hS3
     rw[if_pos h32,←hn,←hm,if_pos (by omega)]
     obtain⟨e',h',ov',S',q1,q2,q3,q4⟩:=EG n _ h3 ov d2 he (by omega)
     exact⟨h',ov',S',fin e' h' q1,q2,((a3.trans b3).trans d3).trans q3,q4⟩
   · rw [if_neg h32]
     have he3:S3.e=700:=by
      rw[hS3,hS2]
      unfold wm
      by_cases q1:p+16≤8* c.text.size
      · simp only[if_pos q1]
        rw[if_neg (by omega)];simp [wQ,he]
      · simp only[if_neg q1,wQ,he,if_true]
        split<;>simp
     obtain⟨e',q⟩:=zO d2 n (.inr (by rw[he3];decide))
     exact⟨h3,ov,S3,fin e' h3 q,d2,(a3.trans b3).trans d3,he3,by decide⟩
 · have c1:((m:Int) !=((65535-n:Nat):Int))=true:=uU (by omega)
   obtain⟨h4,f1,f2,f3⟩:=yz d2 700
   have he4:(wQ 700 S3).e=700:=by
    have:S3.e=0∨S3.e=700:=by
     rw[hS3,hS2]
     unfold wm
     by_cases q1:p+16≤8* c.text.size
     · simp only[if_pos q1]
       split<;>simp [wQ,he]
     · simp only[if_neg q1,wQ,he,if_true]
       split<;>simp
    rcases this with q|q<;>simp [wQ,q]
   obtain⟨e',q⟩:=zO f2 n (.inr (by rw[he4];decide))
   refine⟨h4,ov,wQ 700 S3, ?_,f2,((a3.trans b3).trans d3).trans f3, ?_⟩
   · refine xb (fn:=AP.f39) (e:=[]) rfl rfl rfl ?_ rfl
     simp only[I]at *
     simp only[AP.f39,go_sem,sX,gs,a1,b1,d1,x1,c1,f1,q]
   · by_cases h32:p+32≤8* c.text.size
     · have e2:wm c 16 {S with at_:=p}=(wz c.text p 16,{S with at_:=p+16}):=by rw[wm,if_pos (by show p+16≤_;omega)]
       rw[e2]at hn hS2;dsimp only at hn hS2;subst hS2
       have e3:wm c 16 {S with at_:=p+16}=(wz c.text (p+16) 16,{S with at_:=p+16+16}):=by rw[wm,if_pos (by show p+16+16≤_;omega)]
       rw[e3]at hm hS3;dsimp only at hm hS3
       rw[if_pos h32,←hn,←hm,if_neg (by omega)]
       exact⟨he4,by decide⟩
     · rw[if_neg h32];exact⟨he4,by decide⟩
def Di (most:Int) (d:Nat):Nat→List Nat→Except Int (List Nat)
 |0,out=>.ok out
 |n+1,out=>if most≤out.length then .error 701 else Di most d n (out++[out.getD (out.length-d) 0])
def Iu (l:List Nat):Prop:=∀b∈l,b<256
theorem Ae {c:SC} {S:SS} {h:H} {ov:AV} (st:St c S h ov) (n d:Nat) (hs:n=0∨S.e≠0):
 ∃e',Lp AP.A [0,6,8] AP.f61L0 [(0,.aE c.s 0),(6,I n),(8,I d)] h=some (.exit 0,e',h):=by
 have gs:=st.gs
 refine⟨[(0,.aE c.s 0),(6,I n),(8,I d),(53,.bool false)],tW ?_⟩
 by_cases hn:n=0
 · have c1:¬(0:Int)<n:=by omega
   simp only[I]at *
   simp only[AP.f61L0,go_sem,VD c1]
 · have c1:(0:Int)<n:=by omega
   have c2:(S.e==0)=false:=uR (by omega)
   simp only[I]at *
   simp only[AP.f61L0,go_sem,VE c1,gs,c2]
theorem nT.elem {h:H} {v:AV} {cs:List AV} (o:nT h v cs) {i:Nat} {x:AV} (hx:cs[i]?=some x):∃id,v=.aF id 0 cs.length 1∧fP 1 v (I i)=some (.aE id i)∧h.get id=some cs:=by
 have hi:i<cs.length:=(vt.1 hx).1
 rcases o with ⟨rfl,rfl⟩|⟨id,rfl,h1,_⟩
 · simp at hi
 · exact⟨id,rfl,by simp [fP,kE hi],h1⟩
theorem MW {l:List Nat} {i:Nat} (h:i<l.length):(yI l)[i]?=some (.int .u8 (l.getD i 0:Nat)):=by
 simp [yI,vJ,h,List.getD]
theorem E8 {c:SC} (d:Nat) (hd:0<d):∀(n:Nat) (S:SS) (h:H) (ov:AV),St c S h ov→S.e=0→d≤S.out.length→n≤65535→
 ∃ e' h' ov' S', Lp AP.A [0, 6, 8] AP.f61L0 [(0, .aE c.s 0), (6, I n), (8, I d)] h = some (.exit 0, e', h') ∧ St c S' h' ov' ∧ Fr c h ov h' ov' ∧ match Di c.most d n S.out with
   | .ok o=>S'={S with out:=o}
   | .error k=>S'.e=k∧k≠0
 | 0, S, h, ov, st, he, hl, hn => by
   obtain⟨e',q⟩:=Ae st 0 d (.inl rfl)
   exact⟨e',h,ov,S,q,st,Fr.refl _ _ _,by simp only[Di]⟩
 | n + 1, S, h, ov, st, he, hl, hn => by
   have gs:=st.gs
   have hol:=st.ol
   have hml:=st.ml
   have ln:=st.own.len
   rw[Az]at ln
   have c1:(0:Int)<((n+1:Nat):Int):=by omega
   have w1:IntKind.wrap .i64 (((n+1:Nat):Int)-1)=(n:Int):=by rw[show((n+1:Nat):Int)-1=(n:Int)by omega];exact vZ (by omega)
   have w2:IntKind.wrap .i64 ((S.out.length:Int)-d)=((S.out.length-d:Nat):Int):=by rw[show(S.out.length:Int)-d=((S.out.length-d:Nat):Int)by omega];exact vZ (by omega)
   have hb:=MW (l:=S.out) (i:=S.out.length-d) (by omega)
   obtain⟨id,i1,i2,i3⟩:=st.own.elem hb
   obtain⟨h2,ov2,p1,p2,p3⟩:=Mf st (b:=S.out.getD (S.out.length-d) 0)
   have step:aL (aR AP.A) bp AP.f61L0 (ay [(0,.aE c.s 0),(6,I (n+1:Nat)),(8,I d)] [0,6,8]) h=some (.normal,[(0,.aE c.s 0),(6,I n),(8,I d)],h2):=by
    clear i1
    simp only[I]at *
    simp only[AP.f61L0,go_sem,VE c1,gs,he,ln,w2,i2,i3,hb,p1,w1]
   rw[Di]
   by_cases hm:c.most≤S.out.length
   · rw[if_pos hm]
     have hl:=C5 (c:=c) (S:=S) (S.out.getD (S.out.length-d) 0) he hm
     obtain⟨e',q⟩:=Ae p2 n d (.inr (by rw[hl];decide))
     exact⟨e',h2,ov2,_,tX step q,p2,p3,hl,by decide⟩
   · rw[if_neg hm]
     rw[GD _ he hm]at p2
     obtain⟨e',h',ov',S',q1,q2,q3,q4⟩:=E8 d hd n _ h2 ov2 p2 rfl (by simp;omega) (by omega)
     refine⟨e',h',ov',S',tX step q1,q2,p3.trans q3, ?_⟩
     dsimp only at q4 ⊢
     rw[he]
     exact q4
def Dh (t : ByteArray) (most : Int) (dl : List Int) (y : Nat) (p : Nat) (out : List Nat) : Rs :=
 match lenOf y with
 |none=>.error 700
 | some (least, extra) =>
   if p+extra≤8* t.size then
    match Av t dl 15 1 0 (p+extra)with
    |none=>.error 700
    | some (z, p2) => match wI z.toNat with
      |none=>.error 700
      | some (ld, xd) =>
        if p2+xd≤8* t.size∧ld+wz t p2 xd≤out.length then
         (match Di most (ld+wz t p2 xd) (least+wz t p extra) out with
         | .ok o=>.ok (p2+xd,o)
         | .error k=>.error k)
        else .error 700
   else .error 700
theorem MB {l:List Int} {n:Nat} {y:Int} (h:y∈syms l n):0≤y∧y<l.length:=by
 unfold syms at h
 split at h
 · cases h
 · rw[List.mem_filterMap]at h
   obtain⟨q,hq,h⟩:=h
   split at h
   · obtain rfl:=vm h
     have:=List.mem_zipIdx hq
     omega
   · cases h
theorem Lq {l:List Int} {n:Nat} {v y:Int} (h:yQ l n v=some y):0≤y∧y<l.length:=by
 unfold yQ at h
 split at h
 · exact MB (vE h)
 · cases h
theorem zZ {t : ByteArray} {l : List Int} : ∀ {k n v p : Nat} {y : Int} {p2 : Nat}, Av t l k n v p = some (y, p2) → 0 ≤ y ∧ y < l.length ∧ p < p2 ∧ p2 ≤ 8 * t.size
 |0,_,_,_,_,_,h=>by cases h
 | k + 1, n, v, p, y, p2, h => by
   rw[Av]at h
   split at h
   · split at h
     · rename_i hf
       obtain⟨rfl,rfl⟩:=vo (vm h)
       have:=Lq hf
       omega
     · have:=zZ h
       omega
   · cases h
theorem K8 {c : SC} {S : SS} {h : H} {ov : AV} (dl : List Int) (hdl : dl.length < 100000) (st : St c S h ov) (he : S.e = 0) (y : Nat) (hy : y < 100000) :
 ∃h' ov' S',aR AP.A 61 [.aE c.s 0,I y,wN dl] h=some (.bL [],h')∧St c S' h' ov'∧Fr c h ov h' ov'∧Fin (Dh c.text c.most dl y S.at_ S.out) S':=by
 have lo:=JA h y (by omega)
 unfold Dh
 cases hlo:lenOf y with
 | none =>
   rw[hlo]at lo
   obtain⟨h1,S1,k1,k2,k3,k4⟩:=F0 st he
   have gs1:=k2.gs
   have c1:(S1.e !=0)=true:=uU (by omega)
   refine⟨h1,ov,S1, ?_,k2,k3,k4,by decide⟩
   refine um (fn:=AP.f61) (e:=[(0,.aE c.s 0),(2,wN dl),(6,I 0),(20,.bool true)]) (vs:=[]) rfl rfl rfl ?_ rfl
   simp only[I,Bm]at *
   simp only[AP.f61,go_sem,lo,k1,gs1,c1]
 | some le =>
   obtain⟨least,extra⟩:=le
   rw[hlo]at lo
   obtain⟨b1,b2,b3⟩:=Ct hlo
   obtain⟨h1,k1,k2,k3⟩:=JY st (n:=extra) (least:=least) (by omega) (by omega)
   dsimp only
   by_cases hp:S.at_+extra≤8* c.text.size
   · have eg : wm c extra S = (wz c.text S.at_ extra, { S with at_ := S.at_ + extra }) := by rw [wm, if_pos hp]
     rw[eg]at k1 k2
     dsimp only at k1 k2
     rw[if_pos hp]
     have gs1:=k2.gs
     have hve:=yg c.text S.at_ extra
     have hve2:2^extra≤2^5:=VO (by omega) b2
     obtain⟨h2,S2,z,s1,s2,s3,s4⟩:=EI dl hdl k2 he
     have gs2:=s2.gs
     have c1:(S.e !=0)=false:=uT he
     dsimp only at s4 gs1
     cases hz:Av c.text dl 15 1 0 (S.at_+extra)with
     | none =>
       rw[hz]at s4
       obtain⟨s4,s5⟩:=s4
       have c2:(S2.e !=0)=true:=uU (by omega)
       refine⟨h2,ov,S2, ?_,s2,k3.trans s3,s4,by decide⟩
       refine um (fn:=AP.f61) (e:=[(0,.aE c.s 0),(6,I (least+wz c.text S.at_ extra:Nat)),(7,I z),(28,.bool true)]) (vs:=[]) rfl rfl rfl ?_ rfl
       simp only[I,Bm]at *
       simp only[AP.f61,go_sem,lo,k1,gs1,c1,s1,gs2,c2]
     | some zp =>
       obtain⟨z2,p2⟩:=zp
       rw[hz]at s4
       obtain⟨s4,s5⟩:=s4
       subst s5 s4
       have zb:=zZ hz
       obtain⟨zn,hzn⟩:∃n:Nat,z=n:=VF zb.1
       subst hzn
       have dob:=Hi h2 zn (by omega)
       have c2:(S.e !=0)=false:=uT he
       dsimp only at gs2 ⊢
       rw[Wg]
       cases hdo:wI zn with
       | none =>
         rw[hdo]at dob
         obtain⟨h3,S3,v1,v2,v3,v4⟩:=F0 s2 he
         have gs3:=v2.gs
         have ln:=v2.own.len
         rw[Az]at ln
         have hn0:¬((S3.out.length:Int)<0):=by omega
         obtain⟨e',q⟩:=Ae v2 (least+wz c.text S.at_ extra) 0 (.inr (by rw[v4];decide))
         refine⟨h3,ov,S3, ?_,v2,(k3.trans s3).trans v3,v4,by decide⟩
         refine xb (fn:=AP.f61) (e:=[]) (vs:=[]) rfl rfl rfl ?_ rfl
         have q':Lp AP.A [0,6,8] AP.f61L0 [(0,.aE c.s 0),(6,I (least+wz c.text S.at_ extra:Nat)),(8,I 0)] h3=some (.exit 0,e',h3):=q
         clear q
         simp only[I,Bm]at *
         simp only[AP.f61,go_sem,sX,lo,k1,gs1,c1,s1,gs2,c2,dob,v1,gs3,ln,VD hn0,q']
       | some lx =>
         obtain⟨ld,xd⟩:=lx
         rw[hdo]at dob
         obtain⟨d1,d2,d3⟩:=Bp hdo
         obtain⟨h3,v1,v2,v3⟩:=JY s2 (n:=xd) (least:=ld) (by omega) (by omega)
         obtain⟨x,hx⟩:∃x,x=(wm c xd {S with at_:=p2}).1:=⟨_,rfl⟩
         obtain⟨S3,hS3⟩:∃x,x=(wm c xd {S with at_:=p2}).2:=⟨_,rfl⟩
         rw[←hx]at v1;rw[←hS3]at v2
         have ho3:S3.out=S.out:=by rw[hS3];unfold wm;split<;>simp [wQ];split<;>rfl
         have gs3:=v2.gs
         have ln:=v2.own.len
         rw[Az]at ln
         dsimp only
         by_cases hbk:S3.out.length<ld+x
         · have hbk':(S3.out.length:Int)<((ld+x:Nat):Int):=by omega
           obtain⟨h4,f1,f2,f3⟩:=yz v2 700
           have he4:(wQ 700 S3).e=700:=by
            have:S3.e=0∨S3.e=700:=by
             rw[hS3];unfold wm;split
             · exact .inl he
             · right;simp [wQ,he]
            rcases this with q|q<;>simp [wQ,q]
           have hneg:¬(p2+xd≤8* c.text.size∧ld+wz c.text p2 xd≤S.out.length):=by
            intro ⟨q1,q2⟩
            have:wm c xd {S with at_:=p2}=(wz c.text p2 xd,{S with at_:=p2+xd}):=by rw[wm,if_pos q1]
            rw[this]at hx;dsimp only at hx;rw[ho3]at hbk;omega
           rw[if_neg hneg]
           obtain⟨e',q⟩:=Ae f2 (least+wz c.text S.at_ extra) (ld+x) (.inr (by rw[he4];decide))
           refine⟨h4,ov,wQ 700 S3, ?_,f2,((k3.trans s3).trans v3).trans f3,he4,by decide⟩
           refine xb (fn:=AP.f61) (e:=[]) (vs:=[]) rfl rfl rfl ?_ rfl
           simp only[I,Bm]at *
           simp only[AP.f61,go_sem,sX,lo,k1,gs1,c1,s1,gs2,c2,dob,v1,gs3,ln,VE hbk',f1,q]
         · have hbk':¬(S3.out.length:Int)<((ld+x:Nat):Int):=by omega
           have fin:∀e' h',Lp AP.A [0,6,8] AP.f61L0 [(0,.aE c.s 0),(6,I (least+wz c.text S.at_ extra:Nat)),(8,I (ld+x:Nat))] h3=some (.exit 0,e',h')→aR AP.A 61 [.aE c.s 0,I y,wN dl] h=some (.bL [],h'):=by
            intro e' h' q
            refine xb (fn:=AP.f61) (e:=[]) (vs:=[]) rfl rfl rfl ?_ rfl
            simp only[I,Bm]at *
            simp only[AP.f61,go_sem,sX,lo,k1,gs1,c1,s1,gs2,c2,dob,v1,gs3,ln,VD hbk',q]
           by_cases hp2:p2+xd≤8* c.text.size
           · have:wm c xd {S with at_:=p2}=(wz c.text p2 xd,{S with at_:=p2+xd}):=by rw[wm,if_pos hp2]
             rw[this]at hx hS3;dsimp only at hx hS3
             subst hx hS3
             dsimp only at hbk
             rw[if_pos ⟨hp2,by omega⟩]
             obtain⟨e',h',ov',S',q1,q2,q3,q4⟩:=E8 (c:=c) (ld+wz c.text p2 xd) (by omega) (least+wz c.text S.at_ extra) _ h3 ov v2 he (by dsimp only;omega) (by omega)
             refine⟨h',ov',S',fin e' h' q1,q2,((k3.trans s3).trans v3).trans q3, ?_⟩
             dsimp only at q4
             cases hcl:Di c.most (ld+wz c.text p2 xd) (least+wz c.text S.at_ extra) S.out with
             |ok o=>rw[hcl]at q4;rw[he]at q4;exact q4
             |error k=>rw[hcl]at q4;exact q4
           · rw[if_neg (fun q=>hp2 q.1)]
             have he3:S3.e=700:=by
              rw[hS3,wm,if_neg hp2];simp [wQ,he]
             obtain⟨e',q⟩:=Ae v2 (least+wz c.text S.at_ extra) (ld+x) (.inr (by rw[he3];decide))
             exact⟨h3,ov,S3,fin e' h3 q,v2,(k3.trans s3).trans v3,he3,by decide⟩
   · have eg:wm c extra S=(0,{S with e:=700}):=by rw[wm,if_neg hp,wQ,if_pos he]
     rw[eg]at k1 k2
     dsimp only at k1 k2
     rw[if_neg hp]
     have gs1:=k2.gs
     refine⟨h1,ov,_, ?_,k2,k3,rfl,by decide⟩
     refine um (fn:=AP.f61) (e:=[(0,.aE c.s 0),(2,wN dl),(6,I (least+0:Nat)),(20,.bool true)]) (vs:=[]) rfl rfl rfl ?_ rfl
     simp only[I,Bm]at *
     simp only[AP.f61,go_sem,lo,k1,gs1]
def yJ (t : ByteArray) (most : Int) (ll dl : List Int) : Nat → Nat → List Nat → Rs
 |0,_,_=>.error 700
 | k + 1, p, out => match Av t ll 15 1 0 p with
   |none=>.error 700
   | some (y, p1) =>
     if y<256 then(if most≤out.length then .error 701 else yJ t most ll dl k p1 (out++[y.toNat]))
     else if y=256 then .ok (p1,out)
     else match Dh t most dl y.toNat p1 out with
      | .ok (p2,o)=>yJ t most ll dl k p2 o
      | .error e=>.error e
theorem Hb {t : ByteArray} {most : Int} {dl : List Int} {y p : Nat} {out o : List Nat} {p2 : Nat} (h : Dh t most dl y p out = .ok (p2, o)) : p ≤ p2 ∧ p2 ≤ 8 * t.size := by
 unfold Dh at h
 split at h
 · cases h
 · split at h
   · split at h
     · cases h
     · rename_i hs
       have:=zZ hs
       split at h
       · cases h
       · split at h
         · rename_i hq
           split at h
           · have:=Wj (fun r:Rs=>match r with| .ok q=>q.1|_=>0) h
             dsimp only at this
             omega
           · cases h
         · cases h
   · cases h
theorem D0 {c:SC} {S:SS} {h:H} {ov:AV} (st:St c S h ov) (a b:AV) (hs:S.e≠0):
 ∃e',Lp AP.A [0,1,2] AP.f40L0 [(0,.aE c.s 0),(1,a),(2,b)] h=some (.exit 0,e',h):=by
 have gs:=st.gs
 refine⟨[(0,.aE c.s 0),(1,a),(2,b),(11,.bool false)],tW ?_⟩
 have c2:(S.e==0)=false:=uR hs
 simp only[I]at *
 simp only[AP.f40L0,go_sem,gs,c2]
theorem BK {c : SC} (ll dl : List Int) (hll : ll.length < 100000) (hdl : dl.length < 100000) : ∀ (k : Nat) (S : SS) (h : H) (ov : AV), St c S h ov → S.e = 0 → 8 * c.text.size < S.at_ + k →
 ∃e' h' ov' S',(Lp AP.A [0,1,2] AP.f40L0 [(0,.aE c.s 0),(1,wN ll),(2,wN dl)] h=some (.ret,e',h')∨Lp AP.A [0,1,2] AP.f40L0 [(0,.aE c.s 0),(1,wN ll),(2,wN dl)] h=some (.exit 0,e',h'))∧St c S' h' ov'∧Fr c h ov h' ov'∧Fin (yJ c.text c.most ll dl k S.at_ S.out) S'
 |0,S,h,ov,st,he,hk=>by have:=st.Aa;omega
 | k + 1, S, h, ov, st, he, hk => by
   have gs:=st.gs
   obtain⟨h1,S1,z,s1,s2,s3,s4⟩:=EI ll hll st he
   rw[yJ]
   cases hz:Av c.text ll 15 1 0 S.at_ with
   | none =>
     rw[hz]at s4
     obtain⟨s4,s5⟩:=s4
     subst s5
     refine⟨[(0,.aE c.s 0),(1,wN ll),(2,wN dl),(6,I 256),(26,.bool true)],h1,ov,S1,.inl (uz ?_),s2,s3,s4,by decide⟩
     simp only[I]at *
     simp only[AP.f40L0,go_sem,gs,he,s1]
   | some zp =>
     obtain⟨z2,p1⟩:=zp
     rw[hz]at s4
     obtain⟨s4,s5⟩:=s4
     subst s5 s4
     have zb:=zZ hz
     obtain⟨y,hy⟩:∃n:Nat,z=n:=VF zb.1
     subst hy
     dsimp only
     by_cases c1:(y:Int)<256
     · rw[if_pos c1]
       have w1:IntKind.wrap .u8 (y:Int)=y:=wrap_u8 (by omega)
       obtain⟨h2,ov2,p1',p2',p3'⟩:=Mf s2 (b:=y)
       have step:aL (aR AP.A) bp AP.f40L0 (ay [(0,.aE c.s 0),(1,wN ll),(2,wN dl)] [0,1,2]) h=some (.normal,[(0,.aE c.s 0),(1,wN ll),(2,wN dl)],h2):=by
        simp only[I]at *
        simp only[AP.f40L0,go_sem,gs,he,s1,VE c1,w1,p1']
       by_cases hm:c.most≤S.out.length
       · rw[if_pos hm]
         have hl:=C5 (c:=c) (S:={S with at_:=p1}) y he hm
         obtain⟨e',q⟩:=D0 p2' (wN ll) (wN dl) (by rw[hl];decide)
         exact⟨e',h2,ov2,_,.inr (tX step q),p2',s3.trans p3',hl,by decide⟩
       · rw[if_neg hm]
         rw[GD (S:={S with at_:=p1}) _ he hm]at p2'
         obtain⟨e',h',ov',S',q1,q2,q3,q4⟩:=BK ll dl hll hdl k _ h2 ov2 p2' rfl (by dsimp only;omega)
         refine⟨e',h',ov',S', ?_,q2,(s3.trans p3').trans q3,q4⟩
         rcases q1 with q1|q1
         · exact .inl (tX step q1)
         · exact .inr (tX step q1)
     · rw [if_neg c1]
       by_cases c2:(y:Int)=256
       · rw[if_pos c2]
         refine⟨[(0,.aE c.s 0),(1,wN ll),(2,wN dl),(6,I y),(26,.bool true)],h1,ov,_,.inl (uz ?_),s2,s3, ?_⟩
         · have c2':=uS c2
           simp only[I]at *
           simp only[AP.f40L0,go_sem,gs,he,s1,VD c1,c2']
         · simp only[Fin];rw[he]
       · rw[if_neg c2]
         have c2':=uR c2
         obtain⟨h2,ov2,S2,r1,r2,r3,r4⟩:=K8 dl hdl s2 he y (by omega)
         have step:aL (aR AP.A) bp AP.f40L0 (ay [(0,.aE c.s 0),(1,wN ll),(2,wN dl)] [0,1,2]) h=some (.normal,[(0,.aE c.s 0),(1,wN ll),(2,wN dl)],h2):=by
          simp only[I]at *
          simp only[AP.f40L0,go_sem,gs,he,s1,VD c1,c2',r1]
         dsimp only at r4
         rw[Wg]
         cases hc:Dh c.text c.most dl y p1 S.out with
         | error q =>
           rw[hc]at r4
           obtain⟨e',q'⟩:=D0 r2 (wN ll) (wN dl) (by rw[r4.1];exact r4.2)
           exact⟨e',h2,ov2,S2,.inr (tX step q'),r2,s3.trans r3,r4⟩
         | ok q =>
           obtain⟨p2,o⟩:=q
           rw[hc]at r4
           simp only[Fin]at r4
           subst r4
           have hge:=Hb hc
           obtain⟨e',h',ov',S',q1,q2,q3,q4⟩:=BK ll dl hll hdl k _ h2 ov2 r2 rfl (by dsimp only;omega)
           refine⟨e',h',ov',S', ?_,q2,(s3.trans r3).trans q3,q4⟩
           rcases q1 with q1|q1
           · exact .inl (tX step q1)
           · exact .inr (tX step q1)
theorem Jj {c:SC} {S:SS} {h:H} {ov:AV} (ll dl:List Int) (hll:ll.length<100000) (hdl:dl.length<100000) (st:St c S h ov) (he:S.e=0):
 ∃h' ov' S',aR AP.A 40 [.aE c.s 0,wN ll,wN dl] h=some (.bL [],h')∧St c S' h' ov'∧Fr c h ov h' ov'∧Fin (yJ c.text c.most ll dl (8* c.text.size+1) S.at_ S.out) S':=by
 obtain⟨e',h',ov',S',q1,q2,q3,q4⟩:=BK ll dl hll hdl (8* c.text.size+1) S h ov st he (by omega)
 refine⟨h',ov',S', ?_,q2,q3,q4⟩
 rcases q1 with q1|q1
 · refine um (fn:=AP.f40) (e:=e') (vs:=[]) rfl rfl rfl ?_ rfl
   simp only[AP.f40,go_sem,sX,q1]
 · refine xb (fn:=AP.f40) (e:=[]) (vs:=[]) rfl rfl rfl ?_ rfl
   simp only[AP.f40,go_sem,sX,q1]
theorem wo (h:H):∀id c,h.get id=some c→h.dQ.get id=some c:=fun _ _ q=>q
def Ef (P:AV→Bool):List AV→Nat→Int
 |[],_=> -1
 |v::r,i=>if P v then(i:Int)else Ef P r (i+1)
theorem Hs (P:AV→Bool):∀(l:List AV) (i:Nat),(0≤Ef P l i)↔l.any P=true
 |[],i=>by simp [Ef]
 | v :: r, i => by
   rw[Ef]
   by_cases h:P v
   · rw[if_pos h];simp [h]
   · rw[if_neg h,Hs P r];simp [h]
theorem Ei {x fv : AV} {cs : List AV} (P : AV → Bool) (hP : ∀ v ∈ cs, ∀ g : H, kI (aR AP.A) [v] g fv = some (.bool (P v), g)) (hl : cs.length < 1000000000) (h : H) (rd : Rd h x cs) :
 ∀ (m i : Nat), m + i = cs.length → (∃ e', Lp AP.A [0, 1, 7, 8] AP.f84L0 [(0, x), (1, fv), (7, I cs.length), (8, I i)] h = some (.exit 0, e', h) ∧ Ef P (cs.drop i) i = -1) ∨
   ∃e',Lp AP.A [0,1,7,8] AP.f84L0 [(0,x),(1,fv),(7,I cs.length),(8,I i)] h=some (.ret,e',h)∧look e' 4=I (Ef P (cs.drop i) i)
 | 0, i, hm => by
   left
   refine⟨[(0,x),(1,fv),(7,I cs.length),(8,I i),(9,.bool false)],tW ?_,by rw[List.drop_eq_nil_of_le (by omega)];rfl⟩
   have c1:¬(i:Int)<(cs.length:Int):=by omega
   simp only[I]at *
   simp only[AP.f84L0,go_sem,VD c1]
 | m + 1, i, hm => by
   have hi:i<cs.length:=by omega
   obtain⟨v,hv⟩:∃v,cs[i]?=some v:=⟨_,Vz hi⟩
   have hd:cs.drop i=v::cs.drop (i+1):=by
    rw[List.drop_eq_getElem_cons hi];rw[Vz hi]at hv;rw[vm hv]
   obtain⟨p,p1,p2⟩:=rd.elem hv
   have p3:=p2 h (fun _ _ q=>q)
   have c1:(i:Int)<(cs.length:Int):=by omega
   have hPv:=hP v (vE hv) h
   have w1:IntKind.wrap .i64 ((i:Int)+1)=((i+1:Nat):Int):=vZ (n:=i+1) (by omega)
   rw[hd,Ef]
   cases hb:P v with
   | true =>
     right
     rw[hb]at hPv
     rw[if_pos rfl]
     refine⟨[(4,I i)],uz ?_,rfl⟩
     simp only[I]at *
     simp only[AP.f84L0,go_sem,VE c1,p1,p3,hPv]
   | false =>
     rw[hb]at hPv
     have step:aL (aR AP.A) bp AP.f84L0 (ay [(0,x),(1,fv),(7,I cs.length),(8,I i)] [0,1,7,8]) h=some (.normal,[(0,x),(1,fv),(7,I cs.length),(8,I (i+1:Nat))],h):=by
      simp only[I]at *
      simp only[AP.f84L0,go_sem,VE c1,p1,p3,hPv,w1]
     rw[if_neg (by decide)]
     rcases Ei P hP hl h rd m (i+1) (by omega)with ⟨e',q1,q2⟩|⟨e',q1,q2⟩
     · exact .inl ⟨e',tX step q1,q2⟩
     · exact .inr ⟨e',tX step q1,q2⟩
theorem Nh {x fv:AV} {cs:List AV} (P:AV→Bool) (hP:∀v∈cs,∀g:H,kI (aR AP.A) [v] g fv=some (.bool (P v),g)) (hl:cs.length<1000000000) (h:H) (rd:Rd h x cs):
 aR AP.A 84 [x,fv] h=some (I (Ef P cs 0),h):=by
 have rd':=rd.mono (wo h)
 have ln:=rd.len
 rcases Ei P hP hl h.dQ rd' cs.length 0 (by omega)with ⟨e',q1,q2⟩|⟨e',q1,q2⟩
 · rw[VW]at q2
   rw[q2]
   refine uL (fn:=AP.f84) (h2:=h.dQ) (e:=[(4,I (-1))]) rfl rfl rfl ?_ rfl rfl
   have q1':Lp AP.A [0,1,7,8] AP.f84L0 [(0,x),(1,fv),(7,I cs.length),(8,I 0)] h.dQ=some (.exit 0,e',h.dQ):=q1
   clear q1
   simp only[I]at *
   simp only[AP.f84,go_sem,sX,ln,q1']
 · rw[VW]at q2
   refine uL (fn:=AP.f84) (h2:=h.dQ) (e:=e') (vs:=[I (Ef P cs 0)]) rfl rfl rfl ?_ (by simp only[AP.f84,cu,nM,q2];rfl) rfl
   have q1':Lp AP.A [0,1,7,8] AP.f84L0 [(0,x),(1,fv),(7,I cs.length),(8,I 0)] h.dQ=some (.ret,e',h.dQ):=q1
   clear q1
   simp only[I]at *
   simp only[AP.f84,go_sem,sX,ln,q1']
theorem D5 {x fv:AV} {cs:List AV} (P:AV→Bool) (hP:∀v∈cs,∀g:H,kI (aR AP.A) [v] g fv=some (.bool (P v),g)) (hl:cs.length<1000000000) (h:H) (rd:Rd h x cs):
 aR AP.A 83 [x,fv] h=some (.bool (cs.any P),h):=by
 have k1:=Nh P hP hl h.dQ (rd.mono (wo h))
 have ha:=Hs P cs 0
 refine uL (fn:=AP.f83) (h2:=h.dQ) (e:=[(4,.bool (cs.any P))]) rfl rfl rfl ?_ rfl rfl
 cases hb:cs.any P with
 | true =>
   have c1:0≤Ef P cs 0:=ha.2 hb
   simp only[I]at *
   simp only[AP.f83,go_sem,k1,VE c1]
 | false =>
   have c1:¬0≤Ef P cs 0:=by rw[ha,hb];decide
   simp only[I]at *
   simp only[AP.f83,go_sem,k1,VD c1]
def AK (v:AV):Bool:=match v with| .int _ n=>decide (n<0)||decide (15<n)|_=>true
theorem QQ (n:Int) (h:H):aR AP.A 82 [I n] h=some (.bool (AK (I n)),h):=by
 by_cases c1:n<0
 · refine uL (fn:=AP.f82) (h2:=h.dQ) (e:=[(2,.bool true)]) rfl rfl rfl ?_ rfl ?_
   · simp only[I]at *
     simp only[AP.f82,go_sem,VE c1]
   · simp [AK,I,c1];rfl
 · refine uL (fn:=AP.f82) (h2:=h.dQ) (e:=[(2,.bool (decide (15<n)))]) rfl rfl rfl ?_ rfl ?_
   · simp only[I]at *
     simp only[AP.f82,go_sem,VD c1]
   · simp [AK,I,c1];rfl
def Ap (l:List Int):Bool:=decide (1≤l.length)&&decide (l.length≤288)&& !((ints l).any AK)
theorem NN (h:H) (x:AV) (l:List Int) (hl:l.length<100000) (rd:Rd h x (ints l)):aR AP.A 81 [x] h=some (.bool (Ap l),h):=by
 have hP:∀v∈ints l,∀g:H,kI (aR AP.A) [v] g (.fn 82 [] [])=some (.bool (AK v),g):=by
  intro v hv g
  obtain⟨n,_,rfl⟩:=VN.1 hv
  rw[oh];exact QQ n g
 have k1:=D5 AK hP (by simp;omega) h.dQ (rd.mono (wo h))
 have ln:=rd.len
 rw[qg]at ln
 refine uL (fn:=AP.f81) (h2:=h.dQ) (e:=[(2,.bool (Ap l))]) rfl rfl rfl ?_ rfl rfl
 unfold Ap
 by_cases c1:1≤l.length
 · have c1':(1:Int)≤(l.length:Int):=by omega
   by_cases c2:l.length≤288
   · have c2':(l.length:Int)≤288:=by omega
     simp only[I]at *
     simp only[AP.f81,go_sem,ln,VE c1',VE c2',VE c1,VE c2,k1,Bool.true_and]
   · have c2':¬(l.length:Int)≤288:=by omega
     simp only[I]at *
     simp only[AP.f81,go_sem,ln,VE c1',VD c2',VE c1,VD c2,Bool.true_and,Bool.false_and]
 · have c1':¬(1:Int)≤(l.length:Int):=by omega
   simp only[I]at *
   simp only[AP.f81,go_sem,ln,VD c1',VD c1,Bool.false_and]
def wH (l:List Int):Int:=if Ap l=false then 300 else if wC l 15<0 then 301 else if 0<wC l 15 then 302 else 0
theorem Aq {l:List Int} (h:Ap l=true):∀y∈l,0≤y∧y<16:=by
 intro y hy
 simp only[Ap,vA,Bool.not_eq_true',List.any_eq_false]at h
 have:=h.2 (I y) (VN.2 ⟨y,hy,rfl⟩)
 simp [AK,I]at this
 omega
theorem Gb (h : H) (x : AV) (l : List Int) (hl : l.length < 100000) (rd : Rd h x (ints l)) : aR AP.A 65 [x] h = some (I (wH l), h) := by
 have rd':=rd.mono (wo h)
 have k1:=NN h.dQ x l hl rd'
 unfold wH
 by_cases hm:Ap l=true
 · have k2:=A9 h.dQ x l hl (Aq hm) rd'
   have hb:wN l=.aK (nU 49 (xS l)) 0:=rfl
   have g:(nU 49 (xS l))[48]?=some (I (wC l 15)):=by rw[fN (by omega)];rfl
   rw[hb]at k2
   clear hb
   generalize nU 49 (xS l)=T at k2 g
   rw[hm]at k1 ⊢
   rw[if_neg (by decide)]
   by_cases c1:wC l 15<0
   · rw[if_pos c1]
     refine uL (fn:=AP.f65) (h2:=h.dQ) (e:=[(2,I 301)]) rfl rfl rfl ?_ rfl rfl
     simp only[I]at *
     simp only[AP.f65,go_sem,k1,k2,g,VE c1]
   · rw[if_neg c1]
     by_cases c2:0<wC l 15
     · rw[if_pos c2]
       refine uL (fn:=AP.f65) (h2:=h.dQ) (e:=[(2,I 302)]) rfl rfl rfl ?_ rfl rfl
       simp only[I]at *
       simp only[AP.f65,go_sem,k1,k2,g,VD c1,VE c2]
     · rw[if_neg c2]
       refine uL (fn:=AP.f65) (h2:=h.dQ) (e:=[(2,I 0)]) rfl rfl rfl ?_ rfl rfl
       simp only[I]at *
       simp only[AP.f65,go_sem,k1,k2,g,VD c1,VD c2]
 · have hm':Ap l=false:=by simpa using hm
   rw[hm']at k1 ⊢
   rw[if_pos rfl]
   refine uL (fn:=AP.f65) (h2:=h.dQ) (e:=[(2,I 300)]) rfl rfl rfl ?_ rfl rfl
   simp only[I]at *
   simp only[AP.f65,go_sem,k1]
def My:List Int→Int→Int
 |[],s=>s
 |x::r,s=>My r (s+x)
theorem Dw {x:AV} {l:List Int} (hl:l.length<100000) (hr:∀y∈l,0≤y∧y<16) (h:H) (rd:Rd h x (ints l)):
 ∀(q p:List Int) (s:Int),l=p++q→0≤s→s≤16* p.length→∃e',Lp AP.A [3,6,7,8] AP.f66L0 [(3,I s),(6,x),(7,I l.length),(8,I p.length)] h=some (.exit 0,e',h)∧look e' 3=I (My q s)
 | [], p, s, hpq, hs0, hs1 => by
   refine⟨[(3,I s),(6,x),(7,I l.length),(8,I p.length),(9,.bool false)],tW ?_,rfl⟩
   have c1:¬(p.length:Int)<(l.length:Int):=by rw[hpq];simp
   simp only[I]at *
   simp only[AP.f66L0,go_sem,VD c1]
 | y :: q, p, s, hpq, hs0, hs1 => by
   have hlen:l.length=p.length+(q.length+1):=by rw[hpq];simp
   have c1:(p.length:Int)<(l.length:Int):=by omega
   have hy:=hr y (by rw[hpq];simp)
   have hv:(ints l)[p.length]?=some (I y):=tG (by rw[hpq];simp)
   obtain⟨a,p1,p2⟩:=rd.elem hv
   have p3:=p2 h (fun _ _ q=>q)
   have w1:IntKind.wrap .i64 (s+y)=s+y:=uw (by omega) (by omega)
   have w2:IntKind.wrap .i64 ((p.length:Int)+1)=(((p++[y]).length:Nat):Int):=by
    rw[vV];exact vZ (n:=p.length+1) (by omega)
   have step:aL (aR AP.A) bp AP.f66L0 (ay [(3,I s),(6,x),(7,I l.length),(8,I p.length)] [3,6,7,8]) h=some (.normal,[(3,I (s+y)),(6,x),(7,I l.length),(8,I (p++[y]).length)],h):=by
    simp only[I]at *
    simp only[AP.f66L0,tz,qW,qT,qV,qU,pr,tO,tN,tA,tB,tD,tC,tu,tw,th,te,s7,s9,sH,sI,qu,nV,nj,ny,lJ,sZ,sY,pD,pE,tQ,rU,tL,rE,pc,oY,Nat.reduceEqDiff,ne_eq,not_false_eq_true,mC,mh,VE c1,p1,p3,w1,w2]
   obtain⟨e',q1,q2⟩:=Dw hl hr h rd q (p++[y]) (s+y) (by rw[hpq];simp) (by omega) (by simp;omega)
   exact⟨e',tX step q1,q2⟩
def yM (l:List Int):Bool:=decide (My l 0≤1)
theorem Mn (h:H) (x:AV) (l:List Int) (hl:l.length<100000) (hr:∀y∈l,0≤y∧y<16) (rd:Rd h x (ints l)):aR AP.A 66 [x] h=some (.bool (yM l),h):=by
 have rd':=rd.mono (wo h)
 have ln:=rd.len
 rw[qg]at ln
 obtain⟨e',q1,q2⟩:=Dw hl hr h.dQ rd' l [] 0 rfl (by omega) (by simp)
 have q1':Lp AP.A [3,6,7,8] AP.f66L0 [(3,I 0),(6,x),(7,I l.length),(8,I 0)] h.dQ=some (.exit 0,e',h.dQ):=q1
 clear q1
 refine uL (fn:=AP.f66) (h2:=h.dQ) (e:=[(2,.bool (yM l))]) rfl rfl rfl ?_ rfl rfl
 simp only[I,yM]at *
 simp only[AP.f66,go_sem,sX,ln,q1',q2]
theorem EP {n:Nat} (h:n<18446744073709551616):IntKind.wrap .u64 (n:Int)=n:=by
 have e:IntKind.wrap .u64 (n:Int)=(n:Int)%18446744073709551616:=by simp [IntKind.wrap,IntKind.bits,IntKind.signed]
 rw[e];omega
theorem DP {a:Nat} (ha:a<4294967296):bits .and .u64 (a:Int) 4294967295=(a:Int):=by
 show IntKind.wrap .u64 (((BitVec.ofInt 64 (a:Int)&&&BitVec.ofInt 64 ((4294967295:Nat):Int)).toNat:Nat):Int)=_
 rw[BitVec.toNat_and,zD 64 a (by omega),zD 64 4294967295 (by omega)]
 rw[show 4294967295=2^32-1 from rfl,Nat.and_two_pow_sub_one_eq_mod,Nat.mod_eq_of_lt (by simpa using ha)]
 exact EP (by omega)
theorem JO {a:Nat} (ha:a<4294967296):pP .shr .u64 (a:Int) 32=some (.int .u64 0):=by
 have:(a:Int).fdiv 4294967296=0:=by rw[Int.fdiv_eq_ediv_of_nonneg _ (by omega)];omega
 simp [pP,IntKind.bits,this]
theorem Nn (h:H) (a b:Nat) (ha:a<4294967296) (hb:b<4294967296) (hab:a* b<4294967296):aR AP.A 78 [.int .u64 a,.int .u64 b] h=some (.bL [.int .u64 0,.int .u64 (a* b:Nat)],h):=by
 have a1:=DP ha
 have a2:=DP hb
 have s1:=JO ha
 have s2:=JO hb
 have s3:=JO hab
 have w1:IntKind.wrap .u64 ((a:Int)* b)=((a* b:Nat):Int):=by rw[show(a:Int)* b=((a* b:Nat):Int)by simp];exact EP (by omega)
 have w0:IntKind.wrap .u64 0=0:=by decide
 have z1:(0:Int)* b=0:=by omega
 have z2:(a:Int)* 0=0:=by omega
 have s0:pP .shr .u64 0 32=some (.int .u64 0):=JO (a:=0) (by omega)
 have a0:bits .and .u64 0 4294967295=0:=DP (a:=0) (by omega)
 refine uL (fn:=AP.f78) (h2:=h.dQ) (e:=[(4,.int .u64 0),(5,.int .u64 (a* b:Nat))]) rfl rfl rfl ?_ rfl rfl
 simp only[AP.f78,go_sem,a1,a2,s1,s2,s3,w1,w0,z1,z2,s0,a0,Int.zero_mul,Int.add_zero]
theorem Tf (h:H) (a b:Nat) (ha:a<4294967296) (hb:b<4294967296) (hab:a* b<4294967296):aR AP.A 63 [.int .u64 a,.int .u64 b] h=some (.bL [.int .u64 0,.int .u64 (a* b:Nat)],h):=by
 have k:=Nn h.dQ a b ha hb hab
 refine uL (fn:=AP.f63) (h2:=h.dQ) (e:=[(4,.int .u64 0),(5,.int .u64 (a* b:Nat))]) rfl rfl rfl ?_ rfl rfl
 simp only[AP.f63,go_sem,k]
theorem zY:∀(B V A C:List AV),V.length=B.length→setFrom (A++(B++C)) A.length V=A++(V++C)
 |[],[],A,C,_=>rfl
 | b :: B, v :: V, A, C, h => by
   rw[pO]
   have h1:(A++(b::B++C)).set A.length v=(A++[v])++(B++C):=by
    rw[V9 _ _ (vB _)];simp
   rw[h1]
   have h2:=zY B V (A++[v]) C (by simpa using h)
   rw[vV]at h2
   rw[show A.length+1=A.length+[v].length by rfl,h2];simp
 |[],v::V,A,C,h=>by simp at h
 |b::B,[],A,C,h=>by simp at h
theorem J3 (n:Nat) {v:AV} (hv:v.sc=true):AV.aC (List.replicate n v)=true:=by
 induction n with
 |zero=>rfl
 |succ n ih=>rw[List.replicate_succ,qA,hv,ih];rfl
theorem GH (v:AV):∀n,dJ n [v]=List.replicate n v
 |0=>rfl
 |n+1=>by rw[dJ,GH v n];rfl
theorem Mj {k y:Nat} (h:k≤y):km (I k) y=some k:=by
 simp [km,n7,I];omega
theorem KX {h:H} {id N k:Nat} {cs:List AV} (hg:h.get id=some cs) (hN:cs.length=N) (hk:k≤N):sQ h 1 (.aF id 0 N 1) (some (I k)) none none=some (.aF id k (N-k) 1):=by
 simp [sQ,hg,hN,aB,Mj hk]
theorem Iz {h:H} {id N M k:Nat} {cs:List AV} (hg:h.get id=some cs) (hN:cs.length=N) (hM:M≤N) (hk:k≤N):sQ h 1 (.aF id 0 M 1) none (some (I k)) none=some (.aF id 0 k 1):=by
 have:km (I k) N=some k:=Mj hk
 simp [sQ,hg,hN,aB,this,hM]
def AF (v:AV) (k N:Nat):List AV:=List.replicate k v++List.replicate (N-k) (I 0)
theorem Mg {v:AV} {k N:Nat} (h:k≤N):(AF v k N).length=N:=by simp [AF];omega
theorem H5 {v:AV} {k N m:Nat} (h:k+m≤N):setFrom (AF v k N) k (List.replicate m v)=AF v (k+m) N:=by
 have e:List.replicate (N-k) (I 0)=List.replicate m (I 0)++List.replicate (N-(k+m)) (I 0):=by
  rw[List.replicate_append_replicate];congr 1;omega
 have:=zY (List.replicate m (I 0)) (List.replicate m v) (List.replicate k v) (List.replicate (N-(k+m)) (I 0)) (by simp)
 rw[VR]at this
 rw[AF,e,this,AF,←VH,List.replicate_append_replicate]
theorem Dv (v : AV) (hv : v.sc = true) (N id : Nat) (hN : N < 1000000000) : ∀ (f k : Nat) (h : H), N - k ≤ f → 0 < k → k ≤ N → h.get id = some (AF v k N) → h.floor ≤ id →
 ∃e' h',Lp AP.A [7,8] AP.f43L0 [(7,.aF id 0 N 1),(8,I k)] h=some (.exit 0,e',h')∧look e' 7=.aF id 0 N 1∧h'.get id=some (AF v N N)∧h'.next=h.next
 | f, k, h, hf, hk, hkN, hg, hfl => by
   by_cases hlt:k<N
   · have c1:(k:Int)<(N:Int):=by omega
     have hlen:=Mg (v:=v) hkN
     have s1:=KX hg hlen hkN
     have s2:=Iz hg hlen (vB N) hkN
     obtain⟨m,hm⟩:∃m,m=Nat.min k (N-k):=⟨_,rfl⟩
     have hm1:0<m∧m≤k∧k+m≤N:=by
      rw[hm];have:Nat.min k (N-k)=min k (N-k):=rfl
      rw[this];omega
     have hsrc:aS h 1 (.aF id 0 k 1)=some (k,List.replicate k v):=by
      simp only[aS,if_true,hg,vu]
      rw[if_pos (by rw[hlen];omega)]
      simp [AF]
     have cp:hH h 1 (.aF id k (N-k) 1) (.aF id 0 k 1)=some (I m,h.set id (AF v (k+m) N)):=by
      unfold hH
      rw[hsrc,vu]
      simp only[J3 k hv,hfl,and_self,true_and,if_true,hg,vu,hlen]
      rw[if_pos (by omega),←hm,Nat.mul_one,List.take_replicate,Nat.min_eq_left hm1.2.1,H5 hm1.2.2];rfl
     have w1:IntKind.wrap .i64 ((k:Int)+m)=((k+m:Nat):Int):=by rw[show(k:Int)+m=((k+m:Nat):Int)by omega];exact vZ (by omega)
     have al:jg false (.aF id 0 N 1)=some (I N):=rfl
     have step:aL (aR AP.A) bp AP.f43L0 (ay [(7,.aF id 0 N 1),(8,I k)] [7,8]) h=some (.normal,[(7,.aF id 0 N 1),(8,I (k+m:Nat))],h.set id (AF v (k+m) N)):=by
      simp only[I]at *
      simp only[AP.f43L0,go_sem,al,VE c1,VG,We,s1,s2,cp,w1]
     match f,hf with
     |0,hf=>omega
     | f + 1, hf =>
       obtain⟨e',h',q1,q2,q3,q4⟩:=Dv v hv N id hN f (k+m) (h.set id (AF v (k+m) N)) (by omega) (by omega) (by omega) (by rw[H.dw,if_pos rfl,hg];rfl) (by simpa using hfl)
       exact⟨e',h',tX step q1,q2,q3,by rw[q4];simp⟩
   · have hkN':k=N:=by omega
     subst hkN'
     have c1:¬(k:Int)<(k:Int):=by omega
     have al:jg false (.aF id 0 k 1)=some (I k):=rfl
     refine⟨[(7,.aF id 0 k 1),(8,I k),(37,.bool false)],h,tW ?_,rfl,hg,rfl⟩
     simp only[I]at *
     simp only[AP.f43L0,go_sem,al,VD c1]
theorem zM (h : H) (x : AV) (y : Int) (N : Nat) (hN : N < 1000000000) (rd : Rd h x [I y]) : aR AP.A 43 [x, I N] h = some (.aV false (ints (List.replicate N y)) 0 N 1, h) := by
 have rd':=rd.mono (wo h)
 have ln:=rd.len
 have mc:=Tf h.dQ 1 N (by omega) (by omega) (by omega)
 rw[Nat.one_mul]at mc
 have mc':aR AP.A 63 [.int .u64 1,.int .u64 N] h.dQ=some (.bL [.int .u64 0,.int .u64 N],h.dQ):=mc
 clear mc
 have c0:¬(N:Int)<0:=by omega
 have w1:IntKind.wrap .u64 1=1:=by decide
 have w2:IntKind.wrap .u64 (N:Int)=N:=EP (by omega)
 have w3:IntKind.wrap .i64 (N:Int)=N:=vZ (by omega)
 have c1:¬(0:Int)<0:=by omega
 have c2:¬(9223372036854775807:Int)<(N:Int):=by omega
 obtain⟨id,hid⟩:∃i,i=h.next:=⟨_,rfl⟩
 obtain⟨g1,hg1⟩:∃g,g=h.dQ.alloc (List.replicate N (I 0)):=⟨_,rfl⟩
 have e1:g1.get id=some (List.replicate N (I 0)):=by rw[hg1,H.aW,if_pos (by rw[hid];rfl)]
 have bt:aY [(29,I N),(28,.int .u64 N),(0,x),(6,.int .u64 N)] (.iY 1 8 [I 0] (.t 29) (.t 29))=some (List.replicate N (I 0),fun i=>.aF i 0 N 1):=by
  have c3:(8:Int)* N≤281474976710656:=by omega
  have c4:(N:Int)≤9223372036854775807:=by omega
  simp [aY,I,GH,c3,c4]
 have hcp : ∃ (k : Nat) (h2 : H), hH g1 1 (.aF id 0 N 1) x = some (I k, h2) ∧ ((k = 0 ∧ N = 0) ∨ (k = 1 ∧ 0 < N)) ∧ h2.get id = some (AF (I y) k N) ∧ h2.floor = h.next ∧ h2.next = g1.next := by
  have rd2:aS g1 1 x=some (1,[I y]):=(rd.mono (fun i c q=>by rw[hg1,H.aW,if_neg (by have:=h.lt _ _ q;show i≠h.next;omega)];exact q)).1
  refine⟨Nat.min 1 N,g1.set id (AF (I y) (Nat.min 1 N) N), ?_, ?_,by rw[H.dw,if_pos rfl,e1];rfl,by rw[hg1];simp,by simp⟩
  · unfold hH
    rw[rd2,vu]
    have hf:g1.floor≤id:=by rw[hg1,hid];simp
    have ha:AV.aC [I y]=true:=rfl
    simp only[ha,hf,and_self,true_and,if_true,e1,vu,VR]
    rw[if_pos (by omega),Nat.mul_one]
    have hz:List.replicate N (I 0)=AF (I y) 0 N:=by simp [AF]
    rw[hz]
    have ht:[I y].take (Nat.min 1 N)=List.replicate (Nat.min 1 N) (I y):=by
     cases N with
     |zero=>rfl
     | succ n => have : Nat.min 1 (n + 1) = 1 := by show min 1 (n + 1) = 1; omega
                 rw[this];rfl
    rw[ht,H5 (by show 0+min 1 N≤N;omega),vF];rfl
  · cases N with
    |zero=>left;exact⟨rfl,rfl⟩
    |succ n=>right;exact⟨by show min 1 (n+1)=1;omega,by omega⟩
 obtain⟨k,h2,cp1,cp2,cp3,cp4,cp5⟩:=hcp
 have lp:∃e' h3,Lp AP.A [7,8] AP.f43L0 [(7,.aF id 0 N 1),(8,I k)] h2=some (.exit 0,e',h3)∧look e' 7=.aF id 0 N 1∧h3.get id=some (AF (I y) N N):=by
  rcases cp2 with ⟨rfl,rfl⟩|⟨rfl,hN0⟩
  · refine⟨[(7,.aF id 0 0 1),(8,I 0),(37,.bool false)],h2,tW ?_,rfl,cp3⟩
    have al:jg false (.aF id 0 0 1)=some (I 0):=rfl
    simp only[I]at *
    simp only[AP.f43L0,go_sem,al,Int.natCast_zero]
  · obtain⟨e',h',q1,q2,q3,_⟩:=Dv (I y) rfl N id hN N 1 h2 (by omega) (by omega) (by omega) cp3 (by rw[cp4,hid];exact vB _)
    exact⟨e',h',q1,q2,q3⟩
 obtain⟨e',h3,q1,q2,q3⟩:=lp
 refine uL (fn:=AP.f43) (h2:=h3) (e:=[(4,.aF id 0 N 1)]) (vs:=[.aF id 0 N 1]) rfl rfl rfl ?_ rfl ?_
 · have al:jg false x=some (I 1):=ln
   have hn:h.dQ.next=id:=by rw[hid];rfl
   simp only[I]at *
   simp only[AP.f43,go_sem,al,VD c0,w1,w2,w3,mc',VD c1,VD c2,bt,←hg1,hn,cp1,sX,q1,q2]
 · have hr:AF (I y) N N=ints (List.replicate N y):=by simp [AF,ints]
   show snap h3.get h.next 16 true (.aF id 0 N 1)=_
   unfold snap
   rw[if_neg (by omega),q3,vu,hr,if_pos (by simp)]
   have ht:((ints (List.replicate N y)).drop 0).take (N* 1)=ints (List.replicate N y):=by
    rw[VW,Nat.mul_one,vP (by simp)]
   rw[ht,yE];rfl
theorem Qk (h:H) (N:Nat) (hN0:0<N) (hN:N<1000000000):aR AP.A 76 [.aP,I N] h=some (.aF h.next 0 0 1,h.alloc (List.replicate N (I 0))):=by
 have c0:¬(N:Int)<0:=by omega
 have c1:(0:Int)<N:=by omega
 have w0:IntKind.wrap .i64 (0-0)=0:=by decide
 have w1:IntKind.wrap .i64 ((N:Int)-0)=N:=by rw[Int.sub_zero];exact vZ (by omega)
 have a1:qv .aP=some (I 0):=rfl
 have a2:jg false .aP=some (I 0):=rfl
 have a3:sQ h 1 .aP none (some (I 0)) none=some .aP:=rfl
 have a4:g9 h 1 8 [I 0] .aP (I N)=some (.aF h.next 0 N 1,h.alloc (List.replicate N (I 0))):=by
  have c3:(N:Int)≤281474976710656:=by omega
  have c4:(N:Int)* 8≤281474976710656:=by omega
  have c5:roomy 8 N=true:=by simp [roomy];omega
  simp [g9,I,c3,c4,c5,GH,hN0]
 have a5:sQ (h.alloc (List.replicate N (I 0))) 1 (.aF h.next 0 N 1) none (some (I 0)) none=some (.aF h.next 0 0 1):=
  Iz (by rw[H.aW,if_pos rfl]) (by simp) (vB _) (Nat.zero_le _)
 refine um (fn:=AP.f76) (e:=[(4,.aF h.next 0 0 1)]) rfl rfl rfl ?_ rfl
 simp only[I]at *
 simp only[AP.f76,go_sem,VD c0,VE c1,w0,w1,a1,a2,VG,We,a3,a4,a5]
def cat (ps:List (AV×List Int)):List Int:=ps.flatMap (·.2)
theorem G5 (p:AV×List Int) (ps:List (AV×List Int)):cat (p::ps)=p.2++cat ps:=by simp [cat]
theorem Cm {h:H} {x:AV} {all:List (AV×List Int)} (rd:Rd h x (all.map (·.1))) (hp:∀p∈all,Rd h p.1 (ints p.2)) (hT:(cat all).length<1000000000) (hA:all.length<1000000000):
 ∀(ps qs:List (AV×List Int)),all=qs++ps→
 ∃e',Lp AP.A [0,3,9,10,11] AP.f62L1 [(0,x),(3,I (cat qs).length),(9,x),(10,I all.length),(11,I qs.length)] h=some (.exit 0,e',h)∧look e' 0=x∧look e' 3=I (cat all).length
 | [], qs, hq => by
   rw[VM]at hq;subst hq
   refine⟨[(0,x),(3,I (cat all).length),(9,x),(10,I all.length),(11,I all.length),(12,.bool false)],tW ?_,rfl,rfl⟩
   have c1:¬(all.length:Int)<(all.length:Int):=by omega
   simp only[I]at *
   simp only[AP.f62L1,go_sem,VD c1]
 | p :: ps, qs, hq => by
   have hlen:all.length=qs.length+(ps.length+1):=by rw[hq];simp
   have hct:(cat all).length=(cat qs).length+(p.2.length+(cat ps).length):=by rw[hq];simp [cat]
   have c1:(qs.length:Int)<(all.length:Int):=by omega
   have hv:(all.map (·.1))[qs.length]?=some p.1:=by rw[hq];simp
   obtain⟨a,p1,p2⟩:=rd.elem hv
   have p3:=p2 h (fun _ _ q=>q)
   have ln:=(hp p (by rw[hq];simp)).len
   rw[qg]at ln
   have w1:IntKind.wrap .i64 (((cat qs).length:Int)+p.2.length)=((cat (qs++[p])).length:Int):=by
    rw[show((cat qs).length:Int)+p.2.length=((cat (qs++[p])).length:Int)by simp [cat]];exact vZ (by simp [cat]at *;omega)
   have c2:¬((cat (qs++[p])).length:Int)<0:=by omega
   have w2:IntKind.wrap .i64 ((qs.length:Int)+1)=((qs++[p]).length:Int):=by
    rw[vV];exact vZ (n:=qs.length+1) (by omega)
   obtain⟨e',q1,q2,q3⟩:=Cm rd hp hT hA ps (qs++[p]) (by rw[hq];simp)
   have step:aL (aR AP.A) bp AP.f62L1 (ay [(0,x),(3,I (cat qs).length),(9,x),(10,I all.length),(11,I qs.length)] [0,3,9,10,11]) h=some (.normal,[(0,x),(3,I (cat (qs++[p])).length),(9,x),(10,I all.length),(11,I (qs++[p]).length)],h):=by
    generalize hB:(qs++[p]).length=B at *
    simp only[I]at *
    simp only[AP.f62L1,go_sem,VE c1,p1,p3,ln,w1,VD c2,w2]
   exact⟨e',tX step q1,q2,q3⟩
theorem Cn {h0 : H} {x : AV} {all : List (AV × List Int)} (rd : Rd h0 x (all.map (·.1))) (hp : ∀ p ∈ all, Rd h0 p.1 (ints p.2)) (hT : (cat all).length < 1000000000) (hA : all.length < 1000000000) (id : Nat) (hid : h0.next ≤ id) :
 ∀(ps qs:List (AV×List Int)) (h:H),all=qs++ps→h.floor≤id→h.get id=some (ints (cat qs)++List.replicate (cat ps).length (I 0))→(∀i c,h0.get i=some c→h.get i=some c)→
 ∃e' h',Lp AP.A [6,25,26,27] AP.f62L0 [(6,.aF id 0 (cat qs).length 1),(25,x),(26,I all.length),(27,I qs.length)] h=some (.exit 2,e',h')∧look e' 6=.aF id 0 (cat all).length 1∧h'.get id=some (ints (cat all))
 | [], qs, h, hq, hf, hg, hm => by
   rw[VM]at hq;subst hq
   refine⟨[(6,.aF id 0 (cat all).length 1),(25,x),(26,I all.length),(27,I all.length),(28,.bool false)],h,tW ?_,rfl,by rw[hg];simp [cat]⟩
   have c1:¬(all.length:Int)<(all.length:Int):=by omega
   simp only[I]at *
   simp only[AP.f62L0,go_sem,VD c1]
 | p :: ps, qs, h, hq, hf, hg, hm => by
   have hlen:all.length=qs.length+(ps.length+1):=by rw[hq];simp
   have hct:(cat all).length=(cat qs).length+(p.2.length+(cat ps).length):=by rw[hq];simp [cat]
   have hcq:(cat (qs++[p])).length=(cat qs).length+p.2.length:=by simp [cat]
   have c1:(qs.length:Int)<(all.length:Int):=by omega
   have hv:(all.map (·.1))[qs.length]?=some p.1:=by rw[hq];simp
   obtain⟨a,p1,p2⟩:=rd.elem hv
   have p3:=p2 h hm
   have src:=((hp p (by rw[hq];simp)).mono hm).1
   rw[qg]at src
   have w2:IntKind.wrap .i64 ((qs.length:Int)+1)=((qs++[p]).length:Int):=by
    rw[vV];exact vZ (n:=qs.length+1) (by omega)
   have hz:List.replicate (cat (p::ps)).length (I 0)=List.replicate p.2.length (I 0)++List.replicate (cat ps).length (I 0):=by
    rw[List.replicate_append_replicate,G5,vV]
   have hap:∃h1,kS h 1 8 (.aF id 0 (cat qs).length 1) p.1=some (.aF id 0 (cat (qs++[p])).length 1,h1)∧h1.floor=h.floor∧h1.get id=some (ints (cat (qs++[p]))++List.replicate (cat ps).length (I 0))∧∀i c,h0.get i=some c→h1.get i=some c:=by
    by_cases h0':p.2.length=0
    · have hp2:p.2=[]:=List.length_eq_zero_iff.1 h0'
      refine⟨h, ?_,rfl, ?_,hm⟩
      · unfold kS
        rw[src,vu]
        unfold dM
        rw[if_pos (by simp [h0']),hcq,h0',Nat.add_zero]
      · rw[hg,G5,hp2];simp [cat,hp2]
    · refine⟨h.set id (ints (cat (qs++[p]))++List.replicate (cat ps).length (I 0)), ?_,by simp,by rw[H.dw,if_pos rfl,hg];rfl,fun i c q=> ?_⟩
      · unfold kS
        rw[src,vu]
        have hs:setFrom (ints (cat qs)++List.replicate (cat (p::ps)).length (I 0)) (cat qs).length (ints p.2)=ints (cat (qs++[p]))++List.replicate (cat ps).length (I 0):=by
         have:=zY (List.replicate p.2.length (I 0)) (ints p.2) (ints (cat qs)) (List.replicate (cat ps).length (I 0)) (by simp)
         rw[qg]at this
         rw[hz,this];simp [cat,qf]
        unfold dM
        dsimp only
        rw[if_neg h0',if_neg (by simp [jO])]
        rw[if_pos ⟨rfl,hf⟩,hg,vu,if_pos (by rw[hz];simp)]
        rw[Nat.mul_one,vF,hs,hcq]
      · rw[H.dw,if_neg (by have:=h0.lt _ _ q;omega)];exact hm i c q
   obtain⟨h1,ap1,ap2,ap3,ap4⟩:=hap
   obtain⟨e',h',q1,q2,q3⟩:=Cn rd hp hT hA id hid ps (qs++[p]) h1 (by rw[hq];simp) (by rw[ap2];exact hf) ap3 ap4
   have step:aL (aR AP.A) bp AP.f62L0 (ay [(6,.aF id 0 (cat qs).length 1),(25,x),(26,I all.length),(27,I qs.length)] [6,25,26,27]) h=some (.normal,[(6,.aF id 0 (cat (qs++[p])).length 1),(25,x),(26,I all.length),(27,I (qs++[p]).length)],h1):=by
    generalize hB:(qs++[p]).length=B at *
    simp only[I]at *
    simp only[AP.f62L0,go_sem,VE c1,p1,p3,ap1,w2]
   exact⟨e',h',tX step q1,q2,q3⟩
def xg (l:List Int):AV:=.aV false (ints l) 0 l.length 1
theorem yB (h:H) (l:List Int):Rd h (xg l) (ints l):=by
 refine⟨?_,by intro s e;cases e⟩
 simp [aS,xg,vP]
theorem D4 (h:H) (x:AV) (ps:List (AV×List Int)) (rd:Rd h x (ps.map (·.1))) (hp:∀p∈ps,Rd h p.1 (ints p.2)) (hT:(cat ps).length<1000000000) (hA:ps.length<1000000000) (h0:0<(cat ps).length):aR AP.A 62 [x] h=some (xg (cat ps),h):=by
 have rd':=rd.mono (wo h)
 have hp':∀p∈ps,Rd h.dQ p.1 (ints p.2):=fun p q=>(hp p q).mono (wo h)
 have ln:=rd.len
 rw[Wc]at ln
 obtain⟨e1,a1,a2,a3⟩:=Cm rd' hp' hT hA ps [] rfl
 have a1':Lp AP.A [0,3,9,10,11] AP.f62L1 [(0,x),(3,I 0),(9,x),(10,I ps.length),(11,I 0)] h.dQ=some (.exit 0,e1,h.dQ):=a1
 clear a1
 have gc:=Qk h.dQ (cat ps).length h0 hT
 obtain⟨h1,hh1⟩:∃g,g=h.dQ.alloc (List.replicate (cat ps).length (I 0)):=⟨_,rfl⟩
 rw[←hh1]at gc
 obtain⟨e2,h2,b1,b2,b3⟩:=Cn rd' hp' hT hA h.next (vB _) ps [] h1 rfl (by rw[hh1];simp) (by rw[hh1,H.aW,if_pos (show h.next=h.dQ.next from rfl)];rfl)
  (fun i c q=>by rw[hh1,H.aW,if_neg (by have:=h.dQ.lt _ _ q;omega)];exact q)
 have b1':Lp AP.A [6,25,26,27] AP.f62L0 [(6,.aF h.next 0 0 1),(25,x),(26,I ps.length),(27,I 0)] h1=some (.exit 2,e2,h2):=b1
 clear b1
 have hn:h.dQ.next=h.next:=rfl
 refine uL (fn:=AP.f62) (h2:=h2) (e:=[(2,.aF h.next 0 (cat ps).length 1)]) (vs:=[.aF h.next 0 (cat ps).length 1]) rfl rfl rfl ?_ rfl ?_
 · simp only[I]at *
   simp only[AP.f62,go_sem,ln,sX,a1',a2,a3,gc,hn,b1',b2]
 · show snap h2.get h.next 16 true (.aF h.next 0 (cat ps).length 1)=_
   unfold snap
   rw[if_neg (by omega),b3,vu,if_pos (by simp)]
   have ht:((ints (cat ps)).drop 0).take ((cat ps).length* 1)=ints (cat ps):=by
    rw[VW,Nat.mul_one,vP (by simp)]
   rw[ht,yE];rfl
def wO:List Int:=List.replicate 144 8++(List.replicate 112 9++(List.replicate 24 7++List.replicate 8 8))
theorem QT (e:Env) (n:Int):aY e (.cC 1 1 [.int .i64 0] [(0,.c (.int .i64 n))])=some ([I n],fun i=>.aF i 0 1 1):=rfl
theorem Bx (h:H) (n:Int):Rd (h.alloc [I n]) (.aF h.next 0 1 1) [I n]:=by
 refine⟨?_,by intro s e;cases e⟩
 simp [aS,H.aW]
theorem Jv (h:H):aR AP.A 42 [] h=some (xg wO,h):=by
 have r1:=zM (h.dQ.alloc [I 8]) (.aF h.dQ.next 0 1 1) 8 144 (by omega) (Bx _ _)
 have r2:=zM ((h.dQ.alloc [I 8]).alloc [I 9]) (.aF (h.dQ.alloc [I 8]).next 0 1 1) 9 112 (by omega) (Bx _ _)
 have r3:=zM (((h.dQ.alloc [I 8]).alloc [I 9]).alloc [I 7]) (.aF ((h.dQ.alloc [I 8]).alloc [I 9]).next 0 1 1) 7 24 (by omega) (Bx _ _)
 have r4:=zM ((((h.dQ.alloc [I 8]).alloc [I 9]).alloc [I 7]).alloc [I 8]) (.aF (((h.dQ.alloc [I 8]).alloc [I 9]).alloc [I 7]).next 0 1 1) 8 8 (by omega) (Bx _ _)
 obtain⟨g4,hg4⟩:∃g,g=(((h.dQ.alloc [I 8]).alloc [I 9]).alloc [I 7]).alloc [I 8]:=⟨_,rfl⟩
 obtain⟨v1,hv1⟩:∃v,v=AV.aV false (ints (List.replicate 144 8)) 0 144 1:=⟨_,rfl⟩
 obtain⟨v2,hv2⟩:∃v,v=AV.aV false (ints (List.replicate 112 9)) 0 112 1:=⟨_,rfl⟩
 obtain⟨v3,hv3⟩:∃v,v=AV.aV false (ints (List.replicate 24 7)) 0 24 1:=⟨_,rfl⟩
 obtain⟨v4,hv4⟩:∃v,v=AV.aV false (ints (List.replicate 8 8)) 0 8 1:=⟨_,rfl⟩
 have hc:cat [(v1,List.replicate 144 8),(v2,List.replicate 112 9),(v3,List.replicate 24 7),(v4,List.replicate 8 8)]=wO:=by
  simp only[cat,wO,VJ,List.flatMap_nil,VM]
 have hfl:wO.length=288:=by simp only[wO,vV,VR]
 have cc:=D4 (g4.alloc [v1,v2,v3,v4]) (.aF g4.next 0 4 1) [(v1,List.replicate 144 8),(v2,List.replicate 112 9),(v3,List.replicate 24 7),(v4,List.replicate 8 8)]
  ⟨by simp [aS,H.aW],by intro s e;cases e⟩
  (by
    intro p hp
    simp only[vR,List.not_mem_nil,or_false]at hp
    rcases hp with rfl|rfl|rfl|rfl
    · rw[hv1];exact yB _ _
    · rw[hv2];exact yB _ _
    · rw[hv3];exact yB _ _
    · rw[hv4];exact yB _ _) (by rw[hc,hfl];omega) (by simp) (by rw[hc,hfl];omega)
 rw[hc]at cc
 have bt:∀e:Env,look e 2=v1→look e 4=v2→look e 6=v3→look e 8=v4→aY e (.cC 1 4 [.aP] [(0,.t 2),(1,.t 4),(2,.t 6),(3,.t 8)])=some ([v1,v2,v3,v4],fun i=>.aF i 0 4 1):=by
  intro e q1 q2 q3 q4
  simp only[aY,VK,Wk,sZ,q1,q2,q3,q4]
  rw[hv1,hv2,hv3,hv4];rfl
 refine uL (fn:=AP.f42) (h2:=g4.alloc [v1,v2,v3,v4]) (e:=[(0,xg wO)]) rfl rfl rfl ?_ rfl ?_
 · rw[←hv1]at r1;rw[←hv2]at r2;rw[←hv3]at r3;rw[←hv4]at r4
   rw[←hg4]at r4
   have r1':aR AP.A 43 [.aF h.dQ.next 0 1 1,I 144] (h.dQ.alloc [I 8])=some (v1,h.dQ.alloc [I 8]):=r1
   have r2':aR AP.A 43 [.aF (h.dQ.alloc [I 8]).next 0 1 1,I 112] ((h.dQ.alloc [I 8]).alloc [I 9])=some (v2,(h.dQ.alloc [I 8]).alloc [I 9]):=r2
   have r3':aR AP.A 43 [.aF ((h.dQ.alloc [I 8]).alloc [I 9]).next 0 1 1,I 24] (((h.dQ.alloc [I 8]).alloc [I 9]).alloc [I 7])=some (v3,((h.dQ.alloc [I 8]).alloc [I 9]).alloc [I 7]):=r3
   have r4':aR AP.A 43 [.aF (((h.dQ.alloc [I 8]).alloc [I 9]).alloc [I 7]).next 0 1 1,I 8] g4=some (v4,g4):=r4
   clear r1 r2 r3 r4 hv1 hv2 hv3 hv4 hc
   simp only[I]at *
   simp only[AP.f42,go_sem,QT,I,r1',r2',r3',←hg4,r4']
   rw[bt _ rfl rfl rfl rfl]
   simp only[mS,tz,go_sem,cc]
 · simp only[dj];unfold snap xg;rfl
def we:List Int:=[16,17,18,0,8,7,9,6,10,5,11,4,12,3,13,2,14,1,15]
theorem JD (h:H):aR AP.A 79 [] h=some (xg we,h):=by
 have b:aY [] (.cC 1 19 [.int .i64 0] [(0,(.c (.int .i64 16))),(1,(.c (.int .i64 17))),(2,(.c (.int .i64 18))),(3,(.c (.int .i64 0))),(4,(.c (.int .i64 8))),(5,(.c (.int .i64 7))),(6,(.c (.int .i64 9))),(7,(.c (.int .i64 6))),(8,(.c (.int .i64 10))),(9,(.c (.int .i64 5))),(10,(.c (.int .i64 11))),(11,(.c (.int .i64 4))),(12,(.c (.int .i64 12))),(13,(.c (.int .i64 3))),(14,(.c (.int .i64 13))),(15,(.c (.int .i64 2))),(16,(.c (.int .i64 14))),(17,(.c (.int .i64 1))),(18,(.c (.int .i64 15)))])=some (ints we,fun i=>.aF i 0 19 1):=rfl
 refine uL (fn:=AP.f79) (h2:=h.dQ.alloc (ints we)) (e:=[(0,.aF h.next 0 19 1)]) (vs:=[.aF h.next 0 19 1]) rfl rfl rfl ?_ rfl ?_
 · have hn:h.dQ.next=h.next:=rfl
   simp only[AP.f79,go_sem,b,hn]
 · show snap (h.dQ.alloc (ints we)).get h.next 16 true (.aF h.next 0 19 1)=_
   unfold snap
   rw[if_neg (by omega),H.aW,if_pos (show h.next=h.dQ.next from rfl),vu,if_pos (by decide)]
   rw[show((ints we).drop 0).take (19* 1)=ints we from rfl,yE];rfl
def LC (c:ah) (d:Option Nat) (r:List ak) (e:Env) (p:Option (AV×H)):Option (Env×H×List H):=p.bind fun q=>aN c r (aM d q.1 e) q.2
theorem Gg (c:ah) (d:Option Nat) (r:List ak) (e:Env) (v:AV) (h:H):LC c d r e (some (v,h))=aN c r (aM d v e) h:=vq rfl rfl
def KF (aO:Bool) (h:H) (p:Option (Env×H×List H)):Option (Env×H×List H):=p.bind fun q=>some (q.1,q.2.1,if aO then h::q.2.2 else q.2.2)
theorem GA (h:H) (e:Env) (h':H) (gs:List H):KF true h (some (e,h',gs))=some (e,h',h::gs):=vq rfl rfl
theorem Gz (h:H) (e:Env) (h':H) (gs:List H):KF false h (some (e,h',gs))=some (e,h',gs):=vq rfl rfl
theorem CC (c:ah) (e:Env) (h:H):aN c [] e h=some (e,h,[h]):=vq rfl rfl
theorem FK (c:ah) (o:ak) (r:List ak) (e:Env) (h:H):aN c (o::r) e h=KF o.op.aO h (LC c o.dst r e (aj c o e h)):=by
 rw[aN]
 unfold KF LC
 cases hv:aj c o e h with
 |none=>rfl
 | some q =>
   obtain⟨v,h'⟩:=q
   simp only[vu]
theorem Gs (c:ah) (d:Option Nat) (op:bT) (r:List ak) (e:Env) (h:H):aN c (⟨d,op,none⟩::r) e h=KF op.aO h (LC c d r e (ai c e h op)):=FK _ _ _ _ _
theorem LW (c:ah) (d:Option Nat) (op:bT) (g:Nat) (w:Bool) (r:List ak) (e:Env) (h:H):aN c (⟨d,op,some (g,w)⟩::r) e h=KF op.aO h (LC c d r e (lH w c e h op (look e g))):=FK _ _ _ _ _
theorem KS {c:ah} {l:bG} {e e':Env} {h h':H} {gs:List H} (ord:List Nat) (ops:List ak) (fl:List (Nat×List Nat)) (xc:List Nat) (h1:aN c ops e h=some (e',h',gs)) (h2:aZ c ops e' gs fl=true):aL c l (.iW ord ops fl xc) e h=some (.normal,ay e' xc,h'):=by
 rw[aL,h1,vu]
 dsimp only
 rw[if_pos h2]
theorem C8 {c:ah} {ops:List ak} {e:Env} {gs:List H} {i:Nat} {ks:List Nat} {r:List (Nat×List Nat)} (h1:∀k∈ks,bE c ops e gs i k=true) (h2:aZ c ops e gs r=true):aZ c ops e gs ((i,ks)::r)=true:=by
 simp only[aZ,vA,List.all_eq_true]
 exact⟨h1,h2⟩
theorem C7 {c:ah} {ops:List ak} {e:Env} {gs:List H} {i k:Nat} {o:ak} {g h':H} {d:Nat} {u:AV} (ho:ops[i]?=some o) (hg:gs[k]?=some g) (hb:o.op.aI=false) (hd:o.dst=some d) (hv:aj c o e g=some (u,h')) (hu:AV.beq u (look e d)=true):bE c ops e gs i k=true:=by
 unfold bE
 rw[ho,hg]
 dsimp only
 rw[hb]
 simp only[vw,vS,hd,VG,hv]
 exact hu
theorem F9 (k:IntKind) (n:Int):AV.beq (.int k n) (.int k n)=true:=by simp [AV.beq]
theorem DR (i o l z:Nat):AV.beq (.aF i o l z) (.aF i o l z)=true:=by simp [AV.beq]
theorem GW (i o:Nat):AV.beq (.aE i o) (.aE i o)=true:=by simp [AV.beq]
theorem DC (s:ByteArray):AV.beq (.str s) (.str s)=true:=by
 have:(s==s)=true:=by
  obtain⟨d⟩:=s
  show(d==d)=true
  exact beq_self_eq_true d
 simp [AV.beq,this]
theorem nT.apps {h:H} {v:AV} {cs:List AV} (o:nT h v cs) (hfn:h.floor≤h.next) {z:Nat} (bs:List AV) (hc:AV.aC bs=true) (hb:0<bs.length) (hr:roomy z (cs.length+bs.length)=true):
 ∃v' h',dM h 1 z v bs.length bs=some (v',h')∧nT h' v' (cs++bs)∧h'.floor=h.floor∧h.next≤h'.next∧(∀i,v.id?≠some i→i≠h.next→h'.get i=h.get i)∧v'.id?=some h.next:=by
 have hne:bs≠[]:=by intro e;rw[e]at hb;simp at hb
 rcases o with ⟨rfl,rfl⟩|⟨id,rfl,hg,hf,hne'⟩
 · refine⟨.aF h.next 0 bs.length 1,h.alloc bs, ?_,.inr ⟨h.next,by simp,by simp [H.aW], ?_,by simpa using hne⟩,by simp,by simp,fun i _ hi=>by rw[H.aW,if_neg hi],rfl⟩
   · unfold dM
     rw[if_neg (by omega),if_neg (by simp [hc])]
     simp only[VC,vF]at hr
     simp only[hr,if_true]
   · simp;omega
 · refine⟨.aF h.next 0 (cs.length+bs.length) 1,(h.del id).alloc (cs++bs), ?_,.inr ⟨h.next,by simp,by simp [H.aW], ?_,by simp [hne]⟩,by simp,by simp,fun i h1 h2=> ?_,rfl⟩
   · unfold dM
     rw[if_neg (by omega),if_neg (by simp [hc])]
     simp only[hf,and_self,if_true,hg,vu]
     rw[if_neg (by omega),if_pos ⟨by omega,hr⟩]
     simp
   · have:=h.lt id cs hg;simp;omega
   · rw[H.aW,H.jB,if_neg h2,H.dU,if_neg]
     intro e;subst e;exact h1 rfl
theorem St.xc {c:SC} {S:SS} {h h':H} {ov:AV} (st:St c S h ov) (hf:h'.floor=h.floor) (hn:h.next≤h'.next) (hg:∀i,i=c.s∨i=c.r∨ov.id?=some i→h'.get i=h.get i):St c S h' ov:=by
 refine⟨by rw[hg _ (.inl rfl)];exact st.gs,by rw[hg _ (.inr (.inl rfl))];exact st.gr,st.own.mono hf fun i hi=>hg i (.inr (.inr hi)),st.sr,by rw[hf];exact st.fs,by rw[hf];exact st.fr,st.os,st.or,by rw[hf];exact vT st.nx hn,st.sz,st.Aa,st.ol,st.ml⟩
theorem St.lt {c:SC} {S:SS} {h:H} {ov:AV} (st:St c S h ov) {i:Nat} (hi:i=c.s∨i=c.r∨ov.id?=some i):i<h.next:=by
 rcases hi with rfl|rfl|hi
 · exact h.lt _ _ st.gs
 · exact h.lt _ _ st.gr
 · exact st.own.lt hi
theorem St.alloc {c:SC} {S:SS} {h:H} {ov:AV} (st:St c S h ov) (cs:List AV):St c S (h.alloc cs) ov∧Fr c h ov (h.alloc cs) ov:=by
 refine⟨st.xc (by simp) (by simp) fun i hi=> ?_,⟨by simp,by simp,fun id h1 _ _ _=> ?_,fun _ q=>.inl q⟩⟩
 · have:=st.lt hi;rw[H.aW,if_neg (by omega)]
 · rw[H.aW,if_neg (by omega)]
def xF (c:SC) (y:Int) (acc:List Int) (S:SS):(Int×Nat)×SS:=
 if y=16 then(if acc=[]then((0,0),wQ 700 S)else((acc.getD (acc.length-1) 0,3+(wm c 2 S).1),(wm c 2 S).2))
 else if y=17 then((0,3+(wm c 3 S).1),(wm c 3 S).2)
 else if y=18 then((0,11+(wm c 7 S).1),(wm c 7 S).2)
 else((y,1),S)
theorem Bq (c:SC) (S:SS) (n:Nat) (hn:n≤16):(wm c n S).1<65536:=by
 unfold wm;split
 · have:=yg c.text S.at_ n
   have:=VO (show 0<2 by omega) hn
   simp at *;omega
 · simp
theorem Fm {l:List Int} {i:Nat} (h:i<l.length):(ints l)[i]?=some (I (l.getD i 0)):=tG (by simp [List.getD,h])
theorem MO {c : SC} {S : SS} {h : H} {ov : AV} (st : St c S h ov) (y : Int) {av : AV} {acc : List Int} (oa : nT h av (ints acc)) (ha : acc.length < 100000) (hne : ∀ i, av.id? = some i → i ≠ c.s ∧ i ≠ c.r ∧ ov.id? ≠ some i) :
 ∃h',aR AP.A 80 [.aE c.s 0,I y,av] h=some (.bL [I (xF c y acc S).1.1,I (xF c y acc S).1.2],h')∧St c (xF c y acc S).2 h' ov∧Fr c h ov h' ov:=by
 have ln:=oa.len
 rw[qg]at ln
 by_cases h16:y=16
 · have d16:=uS h16
   by_cases hnil:acc=[]
   · obtain⟨h',k1,k2,k3⟩:=yz st 700
     have e:xF c y acc S=((0,0),wQ 700 S):=by rw[xF,if_pos h16,if_pos hnil]
     rw[e]
     refine⟨h', ?_,k2,k3⟩
     have hz:((acc.length:Int)==0)=true:=by rw[hnil];rfl
     refine um (fn:=AP.f80) (e:=[(6,I 0),(7,I 0)]) rfl rfl rfl ?_ rfl
     simp only[I]at *
     simp only[AP.f80,go_sem,d16,ln,hz,k1]
   · obtain⟨h',k1,k2,k3⟩:=Ak st 2 2 rfl (by omega)
     have e:xF c y acc S=((acc.getD (acc.length-1) 0,3+(wm c 2 S).1),(wm c 2 S).2):=by rw[xF,if_pos h16,if_neg hnil]
     rw[e]
     have hpos:0<acc.length:=Wf.2 hnil
     have hz:((acc.length:Int)==0)=false:=uR (by omega)
     have hg:=Bq c S 2 (by omega)
     have w1:IntKind.wrap .i64 (3+((wm c 2 S).1:Int))=((3+(wm c 2 S).1:Nat):Int):=by
      rw[show(3:Int)+((wm c 2 S).1:Int)=((3+(wm c 2 S).1:Nat):Int)by omega];exact vZ (by omega)
     have w2:IntKind.wrap .i64 ((acc.length:Int)-1)=((acc.length-1:Nat):Int):=by
      rw[show(acc.length:Int)-1=((acc.length-1:Nat):Int)by omega];exact vZ (by omega)
     have hel:=Fm (l:=acc) (i:=acc.length-1) (by omega)
     obtain⟨id,i1,i2,i3⟩:=oa.elem hel
     have hid:=hne id (by rw[i1];rfl)
     have i4:h'.get id=some (ints acc):=by rw[k3.Iv id (h.lt _ _ i3) hid.1 hid.2.1 hid.2.2];exact i3
     refine⟨h', ?_,k2,k3⟩
     refine um (fn:=AP.f80) (e:=[(6,I (acc.getD (acc.length-1) 0)),(7,I (3+(wm c 2 S).1:Nat))]) rfl rfl rfl ?_ rfl
     generalize (wm c 2 S).1=G at *
     clear i1
     simp only[I]at *
     simp only[AP.f80,go_sem,d16,ln,hz]
     rw[KS (e':=[(7,.int .i64 ((3+G:Nat):Int)),(6,.int .i64 (acc.getD (acc.length-1) 0)),(24,.int .i64 ((3+G:Nat):Int)),(23,.int .i64 G),(22,.aE c.s 0),(21,.int .i64 (acc.getD (acc.length-1) 0)),(20,.aE id (acc.length-1)),(19,.int .i64 (acc.length-1:Nat)),(18,.int .i64 acc.length),(17,av),(16,av),(0,.aE c.s 0),(2,av)]) (h':=h') (gs:=[h,h'])]
     · simp only[go_sem]
     · simp only[CC,Gs,Gg,GA,Gz,bT.aO,go_sem,ln,w2,i2,i3,hel,k1,w1]
     · refine C8 (fun k hk=> ?_) rfl
       obtain rfl:k=1:=by simpa using hk
       refine C7 (o:=⟨some 21,.load false 1 (.t 20),none⟩) (g:=h') (h':=h') (d:=21) (u:=.int .i64 (acc.getD (acc.length-1) 0)) rfl rfl rfl rfl ?_ ?_
       · simp only[aj,go_sem,i4,hel]
       · simp only[go_sem,F9]
 · have d16:=uR h16
   by_cases h17:y=17
   · have d17:=uS h17
     obtain⟨h',k1,k2,k3⟩:=Ak st 3 3 rfl (by omega)
     have e:xF c y acc S=((0,3+(wm c 3 S).1),(wm c 3 S).2):=by rw[xF,if_neg h16,if_pos h17]
     rw[e]
     have hg:=Bq c S 3 (by omega)
     have w1:IntKind.wrap .i64 (3+((wm c 3 S).1:Int))=((3+(wm c 3 S).1:Nat):Int):=by
      rw[show(3:Int)+((wm c 3 S).1:Int)=((3+(wm c 3 S).1:Nat):Int)by omega];exact vZ (by omega)
     refine⟨h', ?_,k2,k3⟩
     refine um (fn:=AP.f80) (e:=[(6,I 0),(7,I (3+(wm c 3 S).1:Nat))]) rfl rfl rfl ?_ rfl
     simp only[I]at *
     simp only[AP.f80,go_sem,d16,d17,k1,w1]
   · have d17:=uR h17
     by_cases h18:y=18
     · have d18:=uS h18
       obtain⟨h',k1,k2,k3⟩:=Ak st 7 7 rfl (by omega)
       have e:xF c y acc S=((0,11+(wm c 7 S).1),(wm c 7 S).2):=by rw[xF,if_neg h16,if_neg h17,if_pos h18]
       rw[e]
       have hg:=Bq c S 7 (by omega)
       have w1:IntKind.wrap .i64 (11+((wm c 7 S).1:Int))=((11+(wm c 7 S).1:Nat):Int):=by
        rw[show(11:Int)+((wm c 7 S).1:Int)=((11+(wm c 7 S).1:Nat):Int)by omega];exact vZ (by omega)
       refine⟨h', ?_,k2,k3⟩
       refine um (fn:=AP.f80) (e:=[(6,I 0),(7,I (11+(wm c 7 S).1:Nat))]) rfl rfl rfl ?_ rfl
       simp only[I]at *
       simp only[AP.f80,go_sem,d16,d17,d18,k1,w1]
     · have d18:=uR h18
       have e:xF c y acc S=((y,1),S):=by rw[xF,if_neg h16,if_neg h17,if_neg h18]
       rw[e]
       refine⟨h, ?_,st,Fr.refl _ _ _⟩
       refine um (fn:=AP.f80) (e:=[(6,I y),(7,I 1)]) rfl rfl rfl ?_ rfl
       simp only[I]at *
       simp only[AP.f80,go_sem,d16,d17,d18]
def Gu (t:ByteArray):List Int→Nat→List Int→List Int
 |[],_,o=>o
 |s::r,p,o=>Gu t r (p+3) (o.set s.toNat (wz t p 3))
def Ax (t:ByteArray) (y:Int) (acc:List Int) (p:Nat):Option (Int×Nat×Nat):=
 if y=16 then(if acc=[]then none else if p+2≤8* t.size then some (acc.getD (acc.length-1) 0,3+wz t p 2,p+2)else none)
 else if y=17 then(if p+3≤8* t.size then some (0,3+wz t p 3,p+3)else none)
 else if y=18 then(if p+7≤8* t.size then some (0,11+wz t p 7,p+7)else none)
 else some (y,1,p)
def xI (t : ByteArray) (cl : List Int) (many : Nat) : Nat → List Int → Nat → Option (List Int × Nat)
 |0,_,_=>none
 | f + 1, acc, p => if acc.length < many then
     match Av t cl 15 1 0 p with
     |none=>none
     | some (y, p1) => match Ax t y acc p1 with
       |none=>none
       |some (n,times,p2)=>xI t cl many f (acc++List.replicate times n) p2
   else if many<acc.length then none else some (acc,p)
def zV (t : ByteArray) (many : Nat) (p : Nat) : Option (List Int × Nat) :=
 if p+4≤8* t.size then
  let k:=wz t p 4+4
  if p+4+3* k≤8* t.size then
   let cl:=Gu t (we.take k) (p+4) (List.replicate 19 0)
   if wH cl=0 then xI t cl many (8* t.size+1) [] (p+4+3* k)else none
  else none
 else none
theorem DQ {h:H} {t:Bool} {N k:Nat} {cs:List AV} (hN:cs.length=N) (hk:k≤N):sQ h 1 (.aV t cs 0 N 1) none (some (I k)) none=some (.aV t cs 0 k 1):=by
 simp [sQ,hN,aB,Mj hk]
theorem Bw:∀s∈we,0≤s∧s<19:=by decide
def Bc (c:SC):List Int→List Int→SS→List Int×SS
 |[],o,S=>(o,S)
 |s::r,o,S=>Bc c r (o.set s.toNat ((wm c 3 S).1:Nat)) (wm c 3 S).2
theorem HU (c:SC):∀(r o:List Int) (S:SS),(Bc c r o S).1.length=o.length
 |[],o,S=>rfl
 |s::r,o,S=>by rw[Bc,HU c r];simp
theorem JE (c : SC) : ∀ (r o : List Int) (S : SS), (∀ y ∈ o, 0 ≤ y ∧ y < 16) → ∀ y ∈ (Bc c r o S).1, 0 ≤ y ∧ y < 16
 |[],o,S,h=>h
 | s :: r, o, S, h => by
   rw[Bc]
   refine JE c r _ _ fun y hy=> ?_
   rcases V0 hy with q|q
   · exact h y q
   · subst q
     have:(wm c 3 S).1<8:=by
      unfold wm;split
      · simpa using yg c.text S.at_ 3
      · simp
     omega
theorem JF (c:SC):∀(r o:List Int) (S:SS),S.e=0→S.at_+3* r.length≤8* c.text.size→Bc c r o S=(Gu c.text r S.at_ o,{S with at_:=S.at_+3* r.length})
 |[],o,S,he,h=>rfl
 | s :: r, o, S, he, h => by
   rw[Vy]at h
   have eg:wm c 3 S=(wz c.text S.at_ 3,{S with at_:=S.at_+3}):=by rw[wm,if_pos (by omega)]
   rw[Bc,eg]
   dsimp only
   rw[JF c r _ {S with at_:=S.at_+3} he (by dsimp only;omega)]
   simp only[Gu,Vy]
   rw[show S.at_+3+3* r.length=S.at_+3* (r.length+1)by omega]
theorem Lw (c:SC) (n:Nat) (S:SS) (h:S.e=0∨S.e=700):(wm c n S).2.e=0∨(wm c n S).2.e=700:=by
 unfold wm;split
 · exact h
 · rcases h with h|h<;>simp [wQ,h]
theorem Nc (c:SC) (n:Nat) (S:SS) (h:S.e=700):(wm c n S).2.e=700:=by
 unfold wm;split
 · exact h
 · simp [wQ,h]
theorem Gv (c:SC):∀(r o:List Int) (S:SS),S.e=700→(Bc c r o S).2.e=700
 |[],o,S,h=>h
 |s::r,o,S,h=>by rw[Bc];exact Gv c r _ _ (Nc c 3 S h)
theorem HT (c:SC):∀(r o:List Int) (S:SS),S.e=0→S.at_≤8* c.text.size→8* c.text.size<S.at_+3* r.length→(Bc c r o S).2.e=700
 |[],o,S,he,hle,h=>by simp at h;omega
 | s :: r, o, S, he, hle, h => by
   rw[Bc]
   rw[Vy]at h
   by_cases hp:S.at_+3≤8* c.text.size
   · have eg:wm c 3 S=(wz c.text S.at_ 3,{S with at_:=S.at_+3}):=by rw[wm,if_pos hp]
     rw[eg]
     exact HT c r _ _ he hp (by dsimp only;omega)
   · have eg:wm c 3 S=(0,{S with e:=700}):=by rw[wm,if_neg hp,wQ,if_pos he]
     rw[eg]
     exact Gv c r _ _ rfl
theorem HV {c:SC} (a:Nat) (x:AV) (xs:List Int) (hxs:∀s∈xs,0≤s∧s<19) (hxl:xs.length≤19) (hac:a≠c.s∧a≠c.r) (m:AV):∀(q p o:List Int) (S:SS) (h:H) (ov:AV),xs=p++q→Rd h x (ints xs)→(∀i,x.id?≠some i)→St c S h ov→ov.id?≠some a→h.get a=some (ints o)→o.length=19→h.floor≤a→
 ∃ e' h', Lp AP.A [0, 1, 5, 18, 19, 20] AP.f64L1 [(0, .aE c.s 0), (1, m), (5, .aE a 0), (18, x), (19, I xs.length), (20, I p.length)] h = some (.exit 0, e', h') ∧ look e' 0 = .aE c.s 0 ∧ look e' 1 = m ∧ look e' 5 = .aE a 0 ∧
   St c (Bc c q o S).2 h' ov∧h'.get a=some (ints (Bc c q o S).1)∧h'.floor=h.floor∧h.next≤h'.next∧∀i,i<h.next→i≠c.s→i≠c.r→ov.id?≠some i→i≠a→h'.get i=h.get i
 | [], p, o, S, h, ov, hp, rd, hx, st, hoa, hg, ho, hf => by
   rw[VM]at hp;subst hp
   refine⟨[(0,.aE c.s 0),(1,m),(5,.aE a 0),(18,x),(19,I xs.length),(20,I xs.length),(21,.bool false)],h,tW ?_,rfl,rfl,rfl,st,hg,rfl,vB _,fun _ _ _ _ _ _=>rfl⟩
   have c1:¬(xs.length:Int)<(xs.length:Int):=by omega
   simp only[I]at *
   simp only[AP.f64L1,go_sem,VD c1]
 | s :: q, p, o, S, h, ov, hp, rd, hx, st, hoa, hg, ho, hf => by
   have hlen:xs.length=p.length+(q.length+1):=by rw[hp];simp
   have c1:(p.length:Int)<(xs.length:Int):=by omega
   have hs:=hxs s (by rw[hp];simp)
   obtain⟨sn,hsn⟩:∃n:Nat,s=n:=VF hs.1
   subst hsn
   have hv:(ints xs)[p.length]?=some (I sn):=tG (by rw[hp];simp)
   obtain⟨ad,p1,p2⟩:=rd.elem hv
   have p3:=p2 h (fun _ _ q=>q)
   obtain⟨h1,k1,k2,k3⟩:=Ak st 3 3 rfl (by omega)
   have hal:a<h.next:=h.lt _ _ hg
   have hg1:h1.get a=some (ints o):=by rw[k3.Iv a hal hac.1 hac.2 hoa];exact hg
   have a1:cN (I sn) 19=some sn:=kE (by omega)
   have hset:(ints o).set sn (I ((wm c 3 S).1:Nat))=ints (o.set sn ((wm c 3 S).1:Nat)):=by simp [ints,List.map_set]
   have hst:uN h1 a sn 1 [I ((wm c 3 S).1:Nat)] (some (ints o))=some (h1.set a (ints (o.set sn ((wm c 3 S).1:Nat)))):=by
    rw[u7 (by rw[k3.fl];exact hf) (by rw[qg];omega) rfl,hset]
   have w2:IntKind.wrap .i64 ((p.length:Int)+1)=(((p++[(sn:Int)]).length:Nat):Int):=by
    rw[vV];exact vZ (n:=p.length+1) (by omega)
   have step:aL (aR AP.A) bp AP.f64L1 (ay [(0,.aE c.s 0),(1,m),(5,.aE a 0),(18,x),(19,I xs.length),(20,I p.length)] [0,1,5,18,19,20]) h=some (.normal,[(0,.aE c.s 0),(1,m),(5,.aE a 0),(18,x),(19,I xs.length),(20,I (p++[(sn:Int)]).length)],h1.set a (ints (o.set sn ((wm c 3 S).1:Nat)))):=by
    generalize ints (o.set sn ((wm c 3 S).1:Nat))=W at *
    generalize (p++[(sn:Int)]).length=B at *
    generalize (wm c 3 S).1=G at *
    generalize ints o=OO at *
    simp only[I]at *
    simp only[AP.f64L1,go_sem,VE c1,p1,p3,k1,a1,hg1,hst,w2]
   have st2:St c (wm c 3 S).2 (h1.set a (ints (o.set sn ((wm c 3 S).1:Nat)))) ov:=k2.xc (by simp) (by simp) fun i hi=>by
    rw[H.dw,if_neg]
    rintro rfl
    rcases hi with hi|hi|hi
    · exact hac.1 hi
    · exact hac.2 hi
    · exact hoa hi
   have rd2:Rd (h1.set a (ints (o.set sn ((wm c 3 S).1:Nat)))) x (ints xs):=by
    refine⟨?_,rd.2⟩
    have:=rd.1
    unfold aS at this ⊢
    split at this
    · exact this
    · exact this
    · exact absurd rfl (hx _)
    · exact this
    · cases this
   obtain⟨e',h',q1,q2,q3,q4,q5,q6,q7,q8,q9⟩:=HV a x xs hxs hxl hac m q (p++[(sn:Int)]) (o.set sn ((wm c 3 S).1:Nat)) _ _ ov (by rw[hp];simp) rd2 hx st2 hoa (by rw[H.dw,if_pos rfl,hg1];rfl) (by simpa using ho) (by simp [k3.fl];exact hf)
   refine⟨e',h',tX step q1,q2,q3,q4, ?_, ?_,by rw[q7];simp [k3.fl],by have:=k3.nx;simp at q8;omega,fun i i1 i2 i3 i4 i5=> ?_⟩
   · rw[Bc];exact q5
   · rw[Bc];exact q6
   · rw[q9 i (by have:=k3.nx;simp;omega) i2 i3 i4 i5,H.dw,if_neg i5,k3.Iv i i1 i2 i3 i4]
theorem zC {c:SC} {S:SS} {h:H} {ov:AV} (st:St c S h ov) (b:AV) (many:Nat) {av:AV} {acc:List Int} (oa:nT h av (ints acc)) (hs:many≤acc.length∨(acc.length<many∧S.e≠0)):
 ∃e',Lp AP.A [0,1,9,10] AP.f64L0 [(0,.aE c.s 0),(1,I many),(9,b),(10,av)] h=some (.exit 2,e',h)∧look e' 0=.aE c.s 0∧look e' 1=I many∧look e' 10=av:=by
 have gs:=st.gs
 have ln:=oa.len
 rw[qg]at ln
 refine⟨[(0,.aE c.s 0),(1,I many),(9,b),(10,av),(46,.bool false)],tW ?_,rfl,rfl,rfl⟩
 rcases hs with hs|⟨hs,he⟩
 · have c1:¬(acc.length:Int)<many:=by omega
   simp only[I]at *
   simp only[AP.f64L0,go_sem,ln,VD c1]
 · have c1:(acc.length:Int)<many:=by omega
   have c2:=uR he
   simp only[I]at *
   simp only[AP.f64L0,go_sem,ln,VE c1,gs,c2]
theorem J2 {c : SC} {S : SS} {y : Int} {acc : List Int} (he : S.e = 0) :
 match Ax c.text y acc S.at_ with
 |some (n,times,p)=>xF c y acc S=((n,times),{S with at_:=p})∧S.at_≤p
 |none=>(xF c y acc S).2.e=700:=by
 unfold Ax xF
 by_cases h16:y=16
 · rw[if_pos h16,if_pos h16]
   by_cases hn:acc=[]
   · rw[if_pos hn,if_pos hn];simp [wQ,he]
   · rw[if_neg hn,if_neg hn]
     by_cases hp:S.at_+2≤8* c.text.size
     · simp [wm,hp]
     · simp [wm,hp,wQ,he]
 · rw [if_neg h16, if_neg h16]
   by_cases h17:y=17
   · rw[if_pos h17,if_pos h17]
     by_cases hp:S.at_+3≤8* c.text.size
     · simp [wm,hp]
     · simp [wm,hp,wQ,he]
   · rw[if_neg h17,if_neg h17]
     by_cases h18:y=18
     · rw[if_pos h18,if_pos h18]
       by_cases hp:S.at_+7≤8* c.text.size
       · simp [wm,hp]
       · simp [wm,hp,wQ,he]
     · rw[if_neg h18,if_neg h18]
       exact⟨rfl,vB _⟩
theorem F6 (c:SC) (y:Int) (acc:List Int) (S:SS):(xF c y acc S).1.2<70000:=by
 unfold xF
 have h2:=Bq c S 2 (by omega)
 have h3:=Bq c S 3 (by omega)
 have h7:=Bq c S 7 (by omega)
 repeat' split
 all_goals (dsimp only;omega)
theorem Fw {c : SC} (h0 : H) (cl : List Int) (hcl : cl.length < 100000) (many : Nat) (hm : many ≤ 400) : ∀ (f : Nat) (acc : List Int) (S : SS) (h : H) (ov av : AV), St c S h ov → S.e = 0 → 8 * c.text.size < S.at_ + f → Fr c h0 ov h ov → nT h av (ints acc) → acc.length < 80000 → (∀ i, av.id? = some i → h0.next ≤ i) → (∀ i, (i = c.s ∨ i = c.r ∨ ov.id? = some i) → i < h0.next) →
 ∃ e' h' S' av' acc', Lp AP.A [0, 1, 9, 10] AP.f64L0 [(0, .aE c.s 0), (1, I many), (9, wN cl), (10, av)] h = some (.exit 2, e', h') ∧ look e' 0 = .aE c.s 0 ∧ look e' 1 = I many ∧ look e' 10 = av' ∧ St c S' h' ov ∧ Fr c h0 ov h' ov ∧ nT h' av' (ints acc') ∧ acc'.length < 200000 ∧ (∀ i, av'.id? = some i → h0.next ≤ i) ∧
   match xI c.text cl many f acc S.at_ with
   |some (L,p)=>S'={S with at_:=p}∧acc'=L∧L.length=many
   |none=>S'.e=700∨(S'.e=0∧many<acc'.length)
 |0,acc,S,h,ov,av,st,he,hk,fr,oa,hal,hid,hlo=>by have:=st.Aa;omega
 | f + 1, acc, S, h, ov, av, st, he, hk, fr, oa, hal, hid, hlo => by
   by_cases hlt:acc.length<many
   · rw [xI, if_pos hlt]
     have gs:=st.gs
     have ln:=oa.len
     rw[qg]at ln
     have c1:(acc.length:Int)<many:=by omega
     obtain⟨h1,S1,y,s1,s2,s3,s4⟩:=EI cl hcl st he
     have hneq:∀i,av.id?=some i→i≠c.s∧i≠c.r∧ov.id?≠some i:=fun i hi=>by
      have:=hid i hi
      refine⟨fun e=> ?_,fun e=> ?_,fun e=> ?_⟩
      · have:=hlo i (.inl e);omega
      · have:=hlo i (.inr (.inl e));omega
      · have:=hlo i (.inr (.inr e));omega
     have oa1:nT h1 av (ints acc):=oa.mono s3.fl fun i hi=>s3.Iv i (oa.lt hi) (hneq i hi).1 (hneq i hi).2.1 (hneq i hi).2.2
     obtain⟨h2,r1,r2,r3⟩:=MO s2 y oa1 (by omega) hneq
     have oa2:nT h2 av (ints acc):=oa1.mono r3.fl fun i hi=>r3.Iv i (oa1.lt hi) (hneq i hi).1 (hneq i hi).2.1 (hneq i hi).2.2
     obtain⟨n,hn⟩:∃n,n=(xF c y acc S1).1.1:=⟨_,rfl⟩
     obtain⟨times,htm⟩:∃n,n=(xF c y acc S1).1.2:=⟨_,rfl⟩
     obtain⟨S2,hS2⟩:∃n,n=(xF c y acc S1).2:=⟨_,rfl⟩
     have htb:=F6 c y acc S1
     rw[←hn,←htm]at r1;rw[←hS2]at r2;rw[←htm]at htb
     have al:=r2.alloc [I n]
     have rp:=zM (h2.alloc [I n]) (.aF h2.next 0 1 1) n times (by omega) (Bx _ _)
     have oa3:nT (h2.alloc [I n]) av (ints acc):=oa2.mono (by simp) fun i hi=>by
      have:=oa2.lt hi;rw[H.aW,if_neg (by omega)]
     have hfr3:=((fr.trans s3).trans r3).trans al.2
     have hap:∃v' h3,kS (h2.alloc [I n]) 1 8 av (.aV false (ints (List.replicate times n)) 0 times 1)=some (v',h3)∧nT h3 v' (ints (acc++List.replicate times n))∧St c S2 h3 ov∧Fr c h0 ov h3 ov∧∀i,v'.id?=some i→h0.next≤i:=by
      have src:aS (h2.alloc [I n]) 1 (.aV false (ints (List.replicate times n)) 0 times 1)=some (times,ints (List.replicate times n)):=by
       simp [aS,vP]
      by_cases ht0:times=0
      · subst ht0
        refine⟨av,h2.alloc [I n], ?_,by simpa using oa3,al.1,hfr3,hid⟩
        unfold kS
        rw[src,vu]
        unfold dM
        rw[if_pos rfl]
        rcases oa3 with ⟨rfl,_⟩|⟨id,rfl,_⟩<;>rfl
      · have hnx:=al.1.nx
        obtain⟨v',h3,q1,q2,q3,q4,q5,q6⟩:=oa3.apps hnx (z:=8) (ints (List.replicate times n)) (jO _) (by simp;omega) (by simp [roomy];omega)
        refine⟨v',h3, ?_,by rw[qf];exact q2,al.1.xc q3 q4 fun i hi=> ?_,⟨q3.trans hfr3.fl,vT hfr3.nx q4,fun id i1 i2 i3 i4=> ?_,fun i hi=>.inl hi⟩,fun i hi=> ?_⟩
        · unfold kS
          rw[src,vu]
          have hl:(ints (List.replicate times n)).length=times:=by simp
          rw[hl]at q1;exact q1
        · have hlt0:=hlo i hi
          have hle:h0.next≤(h2.alloc [I n]).next:=hfr3.nx
          exact q5 i (fun e=>by have:=hid i e;omega) (by omega)
        · have hle:h0.next≤(h2.alloc [I n]).next:=hfr3.nx
          rw[q5 id (fun e=>by have:=hid id e;omega) (by omega)]
          exact hfr3.Iv id i1 i2 i3 i4
        · rw[q6]at hi;cases hi;exact hfr3.nx
     obtain⟨v',h3,ap1,ap2,ap3,ap4,ap5⟩:=hap
     have step:aL (aR AP.A) bp AP.f64L0 (ay [(0,.aE c.s 0),(1,I many),(9,wN cl),(10,av)] [0,1,9,10]) h=some (.normal,[(0,.aE c.s 0),(1,I many),(9,wN cl),(10,v')],h3):=by
      have bs:∀(e:Env),look e 57=.int .i64 n→aY e (.cC 1 1 [.int .i64 0] [(0,.t 57)])=some ([.int .i64 n],fun i=>.aF i 0 1 1):=by
       intro e q
       simp only[aY,VK,Wk,sZ,q];rfl
      simp only[I]at *
      simp only[AP.f64L0,go_sem,ln,VE c1,gs,he,s1,r1]
      rw[bs _ rfl]
      simp only[go_sem,rp,ap1]
     have hacc':(acc++List.replicate times n).length<80000:=by simp;omega
     cases hz:Av c.text cl 15 1 0 S.at_ with
     | none =>
       rw[hz]at s4
       obtain⟨s4,s5⟩:=s4
       have hy:y=256:=s5
       have hag:xF c y acc S1=((y,1),S1):=by rw[xF,if_neg (by omega),if_neg (by omega),if_neg (by omega)]
       have hS2e:S2.e=700:=by rw[hS2,hag];exact s4
       dsimp only
       by_cases hlt2:(acc++List.replicate times n).length<many
       · obtain⟨e',q1,q2,q3,q4⟩:=zC ap3 (wN cl) many ap2 (.inr ⟨hlt2,by rw[hS2e];decide⟩)
         exact⟨e',h3,S2,v',_,tX step q1,q2,q3,q4,ap3,ap4,ap2,by omega,ap5,.inl hS2e⟩
       · obtain⟨e',q1,q2,q3,q4⟩:=zC ap3 (wN cl) many ap2 (.inl (by omega))
         exact⟨e',h3,S2,v',_,tX step q1,q2,q3,q4,ap3,ap4,ap2,by omega,ap5,.inl hS2e⟩
     | some yp =>
       obtain⟨z,p1⟩:=yp
       rw[hz]at s4
       obtain⟨s4,s5⟩:=s4
       subst s5 s4
       have zb:=zZ hz
       have hok:=J2 (c:=c) (S:={S with at_:=p1}) (y:=y) (acc:=acc) he
       dsimp only at hok ⊢
       cases ha:Ax c.text y acc p1 with
       | none =>
         rw[ha]at hok
         have hS2e:S2.e=700:=by rw[hS2];exact hok
         dsimp only
         by_cases hlt2:(acc++List.replicate times n).length<many
         · obtain⟨e',q1,q2,q3,q4⟩:=zC ap3 (wN cl) many ap2 (.inr ⟨hlt2,by rw[hS2e];decide⟩)
           exact⟨e',h3,S2,v',_,tX step q1,q2,q3,q4,ap3,ap4,ap2,by omega,ap5,.inl hS2e⟩
         · obtain⟨e',q1,q2,q3,q4⟩:=zC ap3 (wN cl) many ap2 (.inl (by omega))
           exact⟨e',h3,S2,v',_,tX step q1,q2,q3,q4,ap3,ap4,ap2,by omega,ap5,.inl hS2e⟩
       | some q =>
         obtain⟨n2,t2,p2⟩:=q
         rw[ha]at hok
         obtain⟨hok,hp12⟩:=hok
         rw[hok]at hn htm hS2
         dsimp only at hn htm hS2
         subst hn htm hS2
         obtain⟨e',h',S',av',acc',q1,q2,q3,q4,q5,q6,q7,q8,q9,q10⟩:=Fw h0 cl hcl many hm f (acc++List.replicate times n) _ h3 ov v' ap3 he (by dsimp only;omega) ap4 ap2 hacc' ap5 hlo
         exact⟨e',h',S',av',acc',tX step q1,q2,q3,q4,q5,q6,q7,q8,q9,q10⟩
   · obtain⟨e',q1,q2,q3,q4⟩:=zC st (wN cl) many oa (.inl (by omega))
     refine⟨e',h,S,av,acc,q1,q2,q3,q4,st,fr,oa,by omega,hid, ?_⟩
     rw[xI,if_neg hlt]
     by_cases hgt:many<acc.length
     · rw[if_pos hgt];exact .inr ⟨he,hgt⟩
     · rw[if_neg hgt];exact⟨rfl,rfl,by omega⟩
theorem Kq {c : SC} {S : SS} {h : H} {ov : AV} (st : St c S h ov) (he : S.e = 0) (many : Nat) (hm0 : 0 < many) (hm : many ≤ 400) :
 ∃ h' S' av acc, aR AP.A 64 [.aE c.s 0, I many] h = some (av, h') ∧ St c S' h' ov ∧ Fr c h ov h' ov ∧ nT h' av (ints acc) ∧ (∀ i, av.id? = some i → h.next ≤ i) ∧ match zV c.text many S.at_ with
   |some (L,p)=>S'={S with at_:=p}∧acc=L∧L.length=many
   |none=>S'.e=700:=by
 have gs:=st.gs
 obtain⟨a,ha⟩:∃a,a=h.next:=⟨_,rfl⟩
 obtain⟨g0,hg0⟩:∃g,g=h.alloc (ints (List.replicate 19 0)):=⟨_,rfl⟩
 have al:=st.alloc (ints (List.replicate 19 0))
 rw[←hg0]at al
 have hga:g0.get a=some (ints (List.replicate 19 0)):=by rw[hg0,H.aW,if_pos ha]
 have oc:=JD g0
 obtain⟨h1,k1,k2,k3⟩:=Ak al.1 4 4 rfl (by omega)
 obtain⟨G,hG⟩:∃G,G=(wm c 4 S).1:=⟨_,rfl⟩
 obtain⟨S1,hS1⟩:∃G,G=(wm c 4 S).2:=⟨_,rfl⟩
 rw[←hG]at k1;rw[←hS1]at k2
 have hG16:G<16:=by
  rw[hG];unfold wm;split
  · simpa using yg c.text S.at_ 4
  · simp
 have w1:IntKind.wrap .i64 ((G:Int)+4)=((G+4:Nat):Int):=vZ (n:=G+4) (by omega)
 obtain⟨x,hx⟩:∃x,x=AV.aV false (ints we) 0 (G+4) 1:=⟨_,rfl⟩
 have sl:sQ h1 1 (xg we) none (some (I (G+4:Nat))) none=some x:=by
  rw[hx];exact DQ (by rw[qg]) (by show G+4≤19;omega)
 have xl:jg false x=some (I (G+4:Nat)):=by rw[hx];rfl
 obtain⟨xs,hxs⟩:∃xs,xs=we.take (G+4):=⟨_,rfl⟩
 have hol:we.length=19:=rfl
 have hxsl:xs.length=G+4:=by rw[hxs,VZ,hol];omega
 have rdx:Rd h1 x (ints xs):=by
  refine⟨?_,by rw[hx];intro s e;cases e⟩
  have ht:(ints we).take (G+4)=ints xs:=by rw[hxs];simp [ints,List.map_take]
  simp only[aS,hx,if_true]
  rw[if_pos (by rw[qg,hol];omega),VW,Nat.mul_one,ht];simp [hxsl]
 have hac:a≠c.s∧a≠c.r:=⟨fun e=>by have:=st.lt (.inl e);omega,fun e=>by have:=st.lt (.inr (.inl e));omega⟩
 have hoa:ov.id?≠some a:=fun e=>by have:=st.lt (.inr (.inr e));omega
 have hga1:h1.get a=some (ints (List.replicate 19 0)):=by rw[k3.Iv a (g0.lt _ _ hga) hac.1 hac.2 hoa];exact hga
 have hfa:h1.floor≤a:=by rw[k3.fl,hg0,ha];simp;exact st.nx
 obtain⟨e2,h2,l1,l2,l3,l4,l5,l6,l7,l8,l9⟩:=HV (c:=c) a x xs (fun s hs=>Bw s (List.mem_of_mem_take (hxs ▸ hs))) (by omega) hac (I many) xs [] (List.replicate 19 0) S1 h1 ov rfl rdx (by rw[hx];intro i e;cases e) k2 hoa hga1 (by simp) hfa
 obtain⟨cl,hcl⟩:∃cl,cl=(Bc c xs (List.replicate 19 0) S1).1:=⟨_,rfl⟩
 obtain⟨S2,hS2⟩:∃cl,cl=(Bc c xs (List.replicate 19 0) S1).2:=⟨_,rfl⟩
 rw[←hS2]at l5;rw[←hcl]at l6
 have hcll:cl.length=19:=by rw[hcl,HU];simp
 have hclb:∀y∈cl,0≤y∧y<16:=by
  rw[hcl];refine JE c _ _ _ fun y hy=> ?_
  obtain⟨_,rfl⟩:=List.mem_replicate.1 hy;omega
 rw[hxsl]at l1
 have l1':Lp AP.A [0,1,5,18,19,20] AP.f64L1 [(0,.aE c.s 0),(1,I many),(5,.aE a 0),(18,x),(19,I (G+4:Nat)),(20,I 0)] h1=some (.exit 0,e2,h2):=l1
 clear l1
 have fr2:Fr c h ov h2 ov:=by
  refine⟨by rw[l7,k3.fl,al.2.fl], ?_,fun id i1 i2 i3 i4=> ?_,fun i hi=>.inl hi⟩
  · have:=al.2.nx;have:=k3.nx;omega
  · have hn0:g0.next=h.next+1:=by rw[hg0];simp
    have:=k3.nx
    rw[l9 id (by omega) i2 i3 i4 (by omega),k3.Iv id (by omega) i2 i3 i4,al.2.Iv id i1 i2 i3 i4]
 have sF:mQ h2 19 1 (.aE a 0) none none=some (.aF a 0 19 1):=by
  simp [mQ,l6,aB,hcll]
 have gP:Rd h2 (.aF a 0 19 1) (ints cl):=by
  refine⟨?_,by intro s e;cases e⟩
  simp [aS,l6,hcll,vP]
 have ck:=Gb h2 (.aF a 0 19 1) cl (by omega) gP
 have mk:=A9 h2 (.aF a 0 19 1) cl (by omega) hclb gP
 have hhead:(wH cl=0∧S2.e=0∧S.at_+4≤8* c.text.size∧S.at_+4+3* (wz c.text S.at_ 4+4)≤8* c.text.size∧cl=Gu c.text (we.take (wz c.text S.at_ 4+4)) (S.at_+4) (List.replicate 19 0)∧S2={S with at_:=S.at_+4+3* (wz c.text S.at_ 4+4)})∨((wH cl≠0∨S2.e≠0)∧(S2.e=0∨S2.e=700)∧zV c.text many S.at_=none):=by
  by_cases hp:S.at_+4≤8* c.text.size
  · have eg:wm c 4 S=(wz c.text S.at_ 4,{S with at_:=S.at_+4}):=by rw[wm,if_pos hp]
    rw[eg]at hG hS1;dsimp only at hG hS1
    subst hS1
    by_cases hp2:S.at_+4+3* (wz c.text S.at_ 4+4)≤8* c.text.size
    · have ok:=JF c xs (List.replicate 19 0) {S with at_:=S.at_+4} he (by dsimp only;omega)
      rw[ok]at hcl hS2
      dsimp only at hcl hS2
      rw[hxsl,hG]at hS2
      rw[hxs,hG]at hcl
      by_cases hck:wH cl=0
      · exact .inl ⟨hck,by rw[hS2];exact he,hp,hp2,hcl,hS2⟩
      · refine .inr ⟨.inl hck,.inl (by rw[hS2];exact he), ?_⟩
        rw[zV,if_pos hp];dsimp only;rw[if_pos hp2,←hcl,if_neg hck]
    · have hb:=HT c xs (List.replicate 19 0) {S with at_:=S.at_+4} he (by dsimp only;omega) (by dsimp only;omega)
      rw[←hS2]at hb
      refine .inr ⟨.inr (by rw[hb];decide),.inr hb, ?_⟩
      rw[zV,if_pos hp];dsimp only;rw[if_neg hp2]
  · have eg:wm c 4 S=(0,{S with e:=700}):=by rw[wm,if_neg hp,wQ,if_pos he]
    rw[eg]at hS1;dsimp only at hS1
    have hb:=Gv c xs (List.replicate 19 0) S1 (by rw[hS1])
    rw[←hS2]at hb
    exact .inr ⟨.inr (by rw[hb];decide),.inr hb,by rw[zV,if_neg hp]⟩
 have hbk:∀(h3:H) (S3:SS),St c S3 h3 ov→Fr c h ov h3 ov→aR AP.A 41 [.aF a 0 19 1] h3=some (wN cl,h3)→mQ h3 19 1 (.aE a 0) none none=some (.aF a 0 19 1)→
  (aL (aR AP.A) bp (.cond (.t 31) (.pC [⟨some 32,.mv (.t 0),none⟩,⟨some 33,.call (.c (.fn 45 [] [])) [(.t 32),(.c (.int .i64 700))],none⟩] [0,1,5]) .skip [0,1,5]) [(0,.aE c.s 0),(1,I many),(5,.aE a 0),(31,.bool (wH cl !=0))] h2=some (.normal,[(0,.aE c.s 0),(1,I many),(5,.aE a 0)],h3))→
  ∀(e4:Env) (h4:H) (av:AV) (acc:List Int) (h5:H),Lp AP.A [0,1,9,10] AP.f64L0 [(0,.aE c.s 0),(1,I many),(9,wN cl),(10,.aP)] h3=some (.exit 2,e4,h4)→look e4 0=.aE c.s 0→look e4 1=I many→look e4 10=av→jg false av=some (I acc.length)→
  (many<acc.length→aR AP.A 45 [.aE c.s 0,I 700] h4=some (.bL [],h5))→(¬many<acc.length→h5=h4)→aR AP.A 64 [.aE c.s 0,I many] h=some (av,h5):=by
  intro h3 S3 st3 fr3 mk3 sla3 cnd e4 h4 av acc h5 m1 m2 m3 m4 m5 m6 m7
  refine um (fn:=AP.f64) (e:=[(4,av)]) (vs:=[av]) rfl rfl rfl ?_ rfl
  have bt:∀e:Env,aY e (.alloc [.int .i64 0,.int .i64 0,.int .i64 0,.int .i64 0,.int .i64 0,.int .i64 0,.int .i64 0,.int .i64 0,.int .i64 0,.int .i64 0,.int .i64 0,.int .i64 0,.int .i64 0,.int .i64 0,.int .i64 0,.int .i64 0,.int .i64 0,.int .i64 0,.int .i64 0])=some (ints (List.replicate 19 0),fun i=>.aE i 0):=fun _=>rfl
  unfold AP.f64
  refine u4 (e1:=[(0,.aE c.s 0),(1,I many)]) (h1:=h) rfl ?_
  refine u4 (e1:=[(0,.aE c.s 0),(1,I many),(5,.aE a 0)]) (h1:=g0) ?_ ?_
  · simp only[go_sem,bt,←hg0,←ha]
  refine u4 (e1:=[(0,.aE c.s 0),(1,I many),(5,.aE a 0),(6,xg we)]) (h1:=g0) ?_ ?_
  · simp only[go_sem,oc]
  refine u4 (e1:=[(0,.aE c.s 0),(1,I many),(5,.aE a 0)]) (h1:=h2) ?_ ?_
  · clear bt
    simp only[I]at *
    simp only[go_sem,k1,w1,VG,We,sl,xl,sX,l1',l2,l3,l4]
  refine u4 (e1:=[(0,.aE c.s 0),(1,I many),(5,.aE a 0)]) (h1:=h3) ?_ ?_
  · refine u4 (e1:=[(0,.aE c.s 0),(1,I many),(5,.aE a 0),(31,.bool (wH cl !=0))]) (h1:=h2) ?_ cnd
    simp only[I]at *
    simp only[go_sem,We,sF,ck]
  refine u4 (e1:=[(0,.aE c.s 0),(1,I many),(9,wN cl)]) (h1:=h3) ?_ ?_
  · simp only[go_sem,We,sla3,mk3]
  refine u4 (e1:=[(0,.aE c.s 0),(1,I many),(9,wN cl),(10,.aP)]) (h1:=h3) rfl ?_
  refine u4 (e1:=[(0,.aE c.s 0),(1,I many),(10,av)]) (h1:=h4) ?_ ?_
  · simp only[go_sem,sX,m1,m2,m3,m4]
  refine u4 (e1:=[(10,av)]) (h1:=h5) ?_ ?_
  · by_cases hgt:many<acc.length
    · have c1:(many:Int)<(acc.length:Int):=by omega
      have m6':=m6 hgt
      clear m6 m7
      simp only[I]at *
      simp only[go_sem,m5,VE c1,m6']
    · have c1:¬(many:Int)<(acc.length:Int):=by omega
      have m7':=m7 hgt
      subst m7'
      clear m6 m7
      simp only[I]at *
      simp only[go_sem,m5,VD c1]
  simp only[go_sem]
 rcases hhead with ⟨hck,he2,hp,hp2,hcl2,hS22⟩|⟨hbad,he2,hnone⟩
 · have hlen0:zV c.text many S.at_=xI c.text cl many (8* c.text.size+1) [] S2.at_:=by
    rw[zV,if_pos hp];dsimp only;rw[if_pos hp2,←hcl2,if_pos hck,hS22]
   have cnd:aL (aR AP.A) bp (.cond (.t 31) (.pC [⟨some 32,.mv (.t 0),none⟩,⟨some 33,.call (.c (.fn 45 [] [])) [(.t 32),(.c (.int .i64 700))],none⟩] [0,1,5]) .skip [0,1,5]) [(0,.aE c.s 0),(1,I many),(5,.aE a 0),(31,.bool (wH cl !=0))] h2=some (.normal,[(0,.aE c.s 0),(1,I many),(5,.aE a 0)],h2):=by
    have cb:(wH cl !=0)=false:=uT hck
    simp only[go_sem,cb]
   obtain⟨e4,h4,S4,av,acc,m1,m2,m3,m4,m5,m6,m7,m8,m9,m10⟩:=Fw h cl (by omega) many hm (8* c.text.size+1) [] S2 h2 ov .aP l5 he2 (by omega) fr2 (.inl ⟨rfl,rfl⟩) (by simp) (fun i q=>by cases q) (fun i hi=>st.lt hi)
   have ln:=m7.len
   rw[qg]at ln
   rw[hlen0]
   cases hL:xI c.text cl many (8* c.text.size+1) [] S2.at_ with
   | some q =>
     obtain⟨L,p⟩:=q
     rw[hL]at m10
     obtain⟨n1,n2,n3⟩:=m10
     have hng:¬many<acc.length:=by rw[n2];omega
     refine⟨h4,S4,av,acc,hbk h2 S2 l5 fr2 mk sF cnd e4 h4 av acc h4 m1 m2 m3 m4 ln (fun q=>absurd q hng) (fun _=>rfl),m5,m6,m7,m9, ?_,n2,n3⟩
     rw[n1,hS22]
   | none =>
     rw[hL]at m10
     dsimp only at m10 ⊢
     by_cases hgt:many<acc.length
     · obtain⟨h5,f1,f2,f3⟩:=yz m5 700
       refine⟨h5,wQ 700 S4,av,acc,hbk h2 S2 l5 fr2 mk sF cnd e4 h4 av acc h5 m1 m2 m3 m4 ln (fun _=>f1) (fun q=>absurd hgt q),f2,m6.trans f3, ?_,m9, ?_⟩
       · refine m7.mono f3.fl fun i hi=>f3.Iv i (m7.lt hi) (fun e=> ?_) (fun e=> ?_) (fun e=> ?_)
         · have:=m9 i hi;have:=st.lt (.inl e);omega
         · have:=m9 i hi;have:=st.lt (.inr (.inl e));omega
         · have:=m9 i hi;have:=st.lt (.inr (.inr e));omega
       · rcases m10 with q|⟨q,_⟩<;>simp [wQ,q]
     · refine⟨h4,S4,av,acc,hbk h2 S2 l5 fr2 mk sF cnd e4 h4 av acc h4 m1 m2 m3 m4 ln (fun q=>absurd q hgt) (fun _=>rfl),m5,m6,m7,m9, ?_⟩
       rcases m10 with q|⟨_,q⟩
       · exact q
       · exact absurd q hgt
 · rw [hnone]
   have key:∃h3 S3,St c S3 h3 ov∧Fr c h ov h3 ov∧S3.e=700∧h3.get a=some (ints cl)∧aL (aR AP.A) bp (.cond (.t 31) (.pC [⟨some 32,.mv (.t 0),none⟩,⟨some 33,.call (.c (.fn 45 [] [])) [(.t 32),(.c (.int .i64 700))],none⟩] [0,1,5]) .skip [0,1,5]) [(0,.aE c.s 0),(1,I many),(5,.aE a 0),(31,.bool (wH cl !=0))] h2=some (.normal,[(0,.aE c.s 0),(1,I many),(5,.aE a 0)],h3):=by
    by_cases hck:wH cl=0
    · have hb:S2.e≠0:=by rcases hbad with q|q;exact absurd hck q;exact q
      refine⟨h2,S2,l5,fr2,by rcases he2 with q|q;exact absurd q hb;exact q,l6, ?_⟩
      have cb:(wH cl !=0)=false:=uT hck
      simp only[go_sem,cb]
    · obtain⟨h3,f1,f2,f3⟩:=yz l5 700
      refine⟨h3,wQ 700 S2,f2,fr2.trans f3,by rcases he2 with q|q<;>simp [wQ,q],by rw[f3.Iv a (h2.lt _ _ l6) hac.1 hac.2 hoa];exact l6, ?_⟩
      have cb:(wH cl !=0)=true:=uU hck
      simp only[I]at *
      simp only[go_sem,cb,f1]
   obtain⟨h3,S3,st3,fr3,he3,hg3,cnd⟩:=key
   have sla3:mQ h3 19 1 (.aE a 0) none none=some (.aF a 0 19 1):=by
    simp [mQ,hg3,aB,hcll]
   have rdc3:Rd h3 (.aF a 0 19 1) (ints cl):=by
    refine⟨?_,by intro s e;cases e⟩
    simp [aS,hg3,hcll,vP]
   have mk3:=A9 h3 (.aF a 0 19 1) cl (by omega) hclb rdc3
   obtain⟨e4,m1,m2,m3,m4⟩:=zC st3 (wN cl) many (av:=.aP) (acc:=[]) (.inl ⟨rfl,rfl⟩) (.inr ⟨by simpa using hm0,by rw[he3];decide⟩)
   exact⟨h3,S3,.aP,[],hbk h3 S3 st3 fr3 mk3 sla3 cnd e4 h3 .aP [] h3 m1 m2 m3 m4 rfl (fun q=>by simp at q) (fun _=>rfl),st3,fr3,.inl ⟨rfl,rfl⟩,(fun i q=>by cases q),he3⟩
def z7 (l:List Int):Prop:=∀y∈l,0≤y∧y<16
theorem Ix {t : ByteArray} {y : Int} {acc : List Int} {n : Int} {q times p2 : Nat} (hy : 0 ≤ y ∧ y < 19) (ha : z7 acc) (h : Ax t y acc q = some (n, times, p2)) : 0 ≤ n ∧ n < 16 := by
 unfold Ax at h
 split at h
 · split at h
   · cases h
   · rename_i hn
     split at h
     · have:=Wj (fun o=>o.map (·.1)) h
       simp only[VG,vp]at this
       rw[←this]
       have hl:0<acc.length:=Wf.2 hn
       refine ha _ ?_
       rw[Vx,Vz (by omega)]
       exact VP _
     · cases h
 · split at h
   · split at h
     · have:=Wj (fun o=>o.map (·.1)) h
       simp only[VG,vp]at this;omega
     · cases h
   · split at h
     · split at h
       · have:=Wj (fun o=>o.map (·.1)) h
         simp only[VG,vp]at this;omega
       · cases h
     · have:=Wj (fun o=>o.map (·.1)) h
       simp only[VG,vp]at this;omega
theorem Cv {t : ByteArray} {cl : List Int} (hcl : cl.length = 19) {many : Nat} : ∀ {f : Nat} {acc : List Int} {p : Nat} {L : List Int} {p2 : Nat}, z7 acc → xI t cl many f acc p = some (L, p2) → z7 L
 |0,_,_,_,_,_,h=>by cases h
 | f + 1, acc, p, L, p2, ha, h => by
   rw[xI]at h
   split at h
   · split at h
     · cases h
     · rename_i y p1 hs
       have sb:=zZ hs
       split at h
       · cases h
       · rename_i n times q hag
         have hr:=Ix ⟨sb.1,by omega⟩ ha hag
         exact Cv hcl (fun y hy=>by
          rcases VY.1 hy with hy|hy
          · exact ha y hy
          · obtain⟨_,rfl⟩:=List.mem_replicate.1 hy;exact hr) h
   · split at h
     · cases h
     · have:=Wj (fun o=>o.map (·.1)) h
       simp only[VG,vp]at this;rw[←this];exact ha
theorem HR (t:ByteArray):∀(r:List Int) (p:Nat) (o:List Int),(Gu t r p o).length=o.length
 |[],_,_=>rfl
 |s::r,p,o=>by rw[Gu,HR t r];simp
theorem Kr {t:ByteArray} {many p:Nat} {L:List Int} {p2:Nat} (h:zV t many p=some (L,p2)):z7 L:=by
 unfold zV at h
 split at h
 · dsimp only at h
   split at h
   · split at h
     · exact Cv (by rw[HR];simp) (fun y hy=>by cases hy) h
     · cases h
   · cases h
 · cases h
def Ke (t : ByteArray) (most : Int) (p : Nat) (out : List Nat) : Rs :=
 if p+10≤8* t.size then
  let lits:=wz t p 5+257
  let dists:=wz t (p+5) 5+1
  if 286<lits∨30<dists then .error 700 else
  match zV t (lits+dists) (p+10)with
  |none=>.error 700
  | some (L, p2) =>
    if wH (L.take lits)≠0∨(L.take lits).getD 256 0=0∨(wH (L.drop lits)≠0∧yM (L.drop lits)=false)then .error 700
    else yJ t most (L.take lits) (L.drop lits) (8* t.size+1) p2 out
 else .error 700
theorem Kf {c : SC} {S : SS} {h : H} {ov : AV} (st : St c S h ov) (he : S.e = 0) :
 ∃h' ov' S',aR AP.A 44 [.aE c.s 0] h=some (.bL [],h')∧St c S' h' ov'∧Fr c h ov h' ov'∧Fin (Ke c.text c.most S.at_ S.out) S':=by
 obtain⟨h1,a1,a2,a3⟩:=Ak st 5 5 rfl (by omega)
 obtain⟨h2,b1,b2,b3⟩:=Ak a2 5 5 rfl (by omega)
 obtain⟨A,hA⟩:∃n,n=(wm c 5 S).1:=⟨_,rfl⟩
 obtain⟨S1,hS1⟩:∃n,n=(wm c 5 S).2:=⟨_,rfl⟩
 rw[←hA]at a1;rw[←hS1]at a2 b1 b2
 obtain⟨B,hB⟩:∃n,n=(wm c 5 S1).1:=⟨_,rfl⟩
 obtain⟨S2,hS2⟩:∃n,n=(wm c 5 S1).2:=⟨_,rfl⟩
 rw[←hB]at b1;rw[←hS2]at b2
 have g5:∀S,(wm c 5 S).1<32:=fun S=>by
  unfold wm;split
  · simpa using yg c.text S.at_ 5
  · simp
 have hA32:A<32:=hA ▸ g5 S
 have hB32:B<32:=hB ▸ g5 S1
 have w1:IntKind.wrap .i64 ((A:Int)+257)=((A+257:Nat):Int):=vZ (n:=A+257) (by omega)
 have w2:IntKind.wrap .i64 ((B:Int)+1)=((B+1:Nat):Int):=vZ (n:=B+1) (by omega)
 have gs2:=b2.gs
 have he2:S2.e=0∨S2.e=700:=by rw[hS2];exact Lw c 5 _ (by rw[hS1];exact Lw c 5 S (.inl he))
 have fr2:=a3.trans b3
 have bad:(S2.e≠0∨286<A+257∨30<B+1)→∃h' ov' S',aR AP.A 44 [.aE c.s 0] h=some (.bL [],h')∧St c S' h' ov'∧Fr c h ov h' ov'∧S'.e=700∧(700:Int)≠0:=by
  intro hb
  obtain⟨h3,f1,f2,f3⟩:=yz b2 700
  refine⟨h3,ov,wQ 700 S2, ?_,f2,fr2.trans f3,by rcases he2 with q|q<;>simp [wQ,q],by decide⟩
  refine um (fn:=AP.f44) (e:=[]) (vs:=[]) rfl rfl rfl ?_ rfl
  by_cases c1:S2.e=0
  · have c1':=uT c1
    by_cases c2:286<A+257
    · have c2':(286:Int)<((A+257:Nat):Int):=by omega
      simp only[I]at *
      simp only[AP.f44,go_sem,a1,b1,w1,w2,gs2,c1',VE c2',f1]
    · have c2':¬(286:Int)<((A+257:Nat):Int):=by omega
      have c3':(30:Int)<((B+1:Nat):Int):=by
       rcases hb with q|q|q
       · exact absurd c1 q
       · exact absurd q c2
       · omega
      simp only[I]at *
      simp only[AP.f44,go_sem,a1,b1,w1,w2,gs2,c1',VD c2',VE c3',f1]
  · have c1':=uU c1
    simp only[I]at *
    simp only[AP.f44,go_sem,a1,b1,w1,w2,gs2,c1',f1]
 unfold Ke
 by_cases hp:S.at_+10≤8* c.text.size
 · have e1 : wm c 5 S = (wz c.text S.at_ 5, { S with at_ := S.at_ + 5 }) := by rw [wm, if_pos (by omega)]
   rw[e1]at hA hS1;dsimp only at hA hS1
   have e2:wm c 5 {S with at_:=S.at_+5}=(wz c.text (S.at_+5) 5,{S with at_:=S.at_+5+5}):=by rw[wm,if_pos (by show S.at_+5+5≤_;omega)]
   rw[hS1,e2]at hB hS2;dsimp only at hB hS2
   rw[if_pos hp]
   dsimp only
   rw[←hA,←hB]
   by_cases hbig:286<A+257∨30<B+1
   · rw[if_pos hbig];exact bad (.inr hbig)
   · rw [if_neg hbig]
     have c1':(S2.e !=0)=false:=uT (by rw[hS2];exact he)
     have c2':¬(286:Int)<((A+257:Nat):Int):=by omega
     have c3':¬(30:Int)<((B+1:Nat):Int):=by omega
     have w3:IntKind.wrap .i64 (((A+257:Nat):Int)+((B+1:Nat):Int))=((A+257+(B+1):Nat):Int):=by
      rw[show((A+257:Nat):Int)+((B+1:Nat):Int)=((A+257+(B+1):Nat):Int)by omega];exact vZ (by omega)
     obtain⟨h3,S3,av,acc,l1,l2,l3,l4,l5,l6⟩:=Kq b2 (by rw[hS2];exact he) (A+257+(B+1)) (by omega) (by omega)
     have gs3:=l2.gs
     have hat2:S2.at_=S.at_+10:=by rw[hS2]
     rw[hat2]at l6
     cases hL:zV c.text (A+257+(B+1)) (S.at_+10)with
     | none =>
       rw[hL]at l6
       have c4:(S3.e !=0)=true:=uU (by rw[l6];decide)
       refine⟨h3,ov,S3, ?_,l2,fr2.trans l3,l6,by decide⟩
       refine um (fn:=AP.f44) (e:=[(0,.aE c.s 0),(2,I (A+257:Nat)),(4,av),(37,.bool true)]) (vs:=[]) rfl rfl rfl ?_ rfl
       simp only[I]at *
       simp only[AP.f44,go_sem,a1,b1,w1,w2,gs2,c1',VD c2',VD c3',w3,l1,gs3,c4]
     | some q =>
       obtain⟨L,p2⟩:=q
       rw[hL]at l6
       obtain⟨l6,l7,l8⟩:=l6
       subst l7
       have hrng:=Kr hL
       dsimp only
       have he3:S3.e=0:=by rw[l6,hS2];exact he
       have c4:(S3.e !=0)=false:=uT he3
       obtain⟨id,hav,hgid⟩:∃id,av=.aF id 0 (A+257+(B+1)) 1∧h3.get id=some (ints acc):=by
        rcases l4 with ⟨_,q⟩|⟨id,q1,q2,_⟩
        · have:=Wj List.length q;rw[qg,l8,VC]at this;omega
        · exact⟨id,by rw[q1,qg,l8],q2⟩
       have hil:(ints acc).length=A+257+(B+1):=by rw[qg,l8]
       have s1:=Iz (h:=h3) (k:=A+257) hgid hil (vB _) (by omega)
       have s2:=KX (h:=h3) (k:=A+257) hgid hil (by omega)
       rw[show A+257+(B+1)-(A+257)=B+1 by omega]at s2
       rw[←hav]at s1 s2
       obtain⟨la,hla⟩:∃x,x=acc.take (A+257):=⟨_,rfl⟩
       obtain⟨lb,hlb⟩:∃x,x=acc.drop (A+257):=⟨_,rfl⟩
       have hlal:la.length=A+257:=by rw[hla,VZ];omega
       have hlbl:lb.length=B+1:=by rw[hlb,List.length_drop];omega
       have ra:Rd h3 (.aF id 0 (A+257) 1) (ints la):=by
        refine⟨?_,by intro s e;cases e⟩
        simp only[aS,if_true,hgid,vu]
        rw[if_pos (by rw[hil];omega),hla];simp [ints,List.map_take];omega
       have rb:Rd h3 (.aF id (A+257) (B+1) 1) (ints lb):=by
        refine⟨?_,by intro s e;cases e⟩
        simp only[aS,if_true,hgid,vu]
        rw[if_pos (by rw[hil];omega),hlb]
        have:(ints (acc.drop (A+257))).length=B+1:=by rw[qg,←hlb,hlbl]
        rw[this,ints,ints,←List.map_drop,Nat.mul_one,vP (by rw[Wc,←hlb,hlbl];omega)]
       rw[←hla,←hlb]
       have cka:=Gb h3 _ la (by omega) ra
       have ckb:=Gb h3 _ lb (by omega) rb
       have hra:z7 la:=fun y hy=>hrng y (List.mem_of_mem_take (hla ▸ hy))
       have hrb:z7 lb:=fun y hy=>hrng y (List.mem_of_mem_drop (hlb ▸ hy))
       have sgb:=Mn h3 _ lb (by omega) hrb rb
       have mka:=A9 h3 _ la (by omega) hra ra
       have mkb:=A9 h3 _ lb (by omega) hrb rb
       have hel:=Fm (l:=la) (i:=256) (by omega)
       obtain⟨ad,p1,p2'⟩:=ra.elem hel
       have p3:=p2' h3 (fun _ _ q=>q)
       have p1':fP 1 (.aF id 0 (A+257) 1) (I 256)=some ad:=p1
       clear p1 p2'
       obtain⟨cb,hcb⟩:∃b:Bool,(b=true↔wH la≠0∨la.getD 256 0=0∨(wH lb≠0∧yM lb=false)):=⟨decide _,decide_eq_true_iff⟩
       have step:∀k,aL (aR AP.A) bp k [(0,.aE c.s 0),(2,I (A+257:Nat)),(4,av)] h3=aL (aR AP.A) bp k [(0,.aE c.s 0),(2,I (A+257:Nat)),(4,av)] h3:=fun _=>rfl
       by_cases hbad:wH la≠0∨la.getD 256 0=0∨(wH lb≠0∧yM lb=false)
       · rw [if_pos hbad]
         obtain⟨h4,f1,f2,f3⟩:=yz l2 700
         refine⟨h4,ov,wQ 700 S3, ?_,f2,(fr2.trans l3).trans f3,by simp [wQ,he3],by decide⟩
         refine um (fn:=AP.f44) (e:=[]) (vs:=[]) rfl rfl rfl ?_ rfl
         by_cases d1:wH la=0
         · have d1':=uT d1
           by_cases d2:la.getD 256 0=0
           · have d2':=uS d2
             simp only[I]at *
             simp only[AP.f44,go_sem,a1,b1,w1,w2,gs2,c1',VD c2',VD c3',w3,l1,gs3,c4,VG,We,s1,s2,cka,d1',p1',p3,d2',f1]
           · have d2':=uR d2
             obtain⟨d3,d4⟩:wH lb≠0∧yM lb=false:=by
              rcases hbad with q|q|q
              · exact absurd d1 q
              · exact absurd q d2
              · exact q
             have d3':=uU d3
             rw[d4]at sgb
             simp only[I]at *
             simp only[AP.f44,go_sem,a1,b1,w1,w2,gs2,c1',VD c2',VD c3',w3,l1,gs3,c4,VG,We,s1,s2,cka,d1',p1',p3,d2',ckb,d3',sgb,f1]
         · have d1':=uU d1
           simp only[I]at *
           simp only[AP.f44,go_sem,a1,b1,w1,w2,gs2,c1',VD c2',VD c3',w3,l1,gs3,c4,VG,We,s1,s2,cka,d1',f1]
       · rw [if_neg hbad]
         have d1:wH la=0:=Decidable.byContradiction fun q=>hbad (.inl q)
         have d2:la.getD 256 0≠0:=fun q=>hbad (.inr (.inl q))
         have d1':=uT d1
         have d2':=uR d2
         obtain⟨h4,ov4,S4,q1,q2,q3,q4⟩:=Jj la lb (by omega) (by omega) l2 he3
         refine⟨h4,ov4,S4, ?_,q2,(fr2.trans l3).trans q3, ?_⟩
         · refine xb (fn:=AP.f44) (e:=[]) (vs:=[]) rfl rfl rfl ?_ rfl
           by_cases d3:wH lb=0
           · have d3':=uT d3
             simp only[I]at *
             simp only[AP.f44,go_sem,a1,b1,w1,w2,gs2,c1',VD c2',VD c3',w3,l1,gs3,c4,VG,We,s1,s2,cka,d1',p1',p3,d2',ckb,d3',mka,mkb,q1]
           · have d3':=uU d3
             have d4:yM lb=true:=by
              cases hs:yM lb with
              |true=>rfl
              |false=>exact absurd (.inr (.inr ⟨d3,hs⟩)) hbad
             rw[d4]at sgb
             simp only[I]at *
             simp only[AP.f44,go_sem,a1,b1,w1,w2,gs2,c1',VD c2',VD c3',w3,l1,gs3,c4,VG,We,s1,s2,cka,d1',p1',p3,d2',ckb,d3',sgb,mka,mkb,q1]
         · have:S3.at_=p2:=by rw[l6]
           have ho:S3.out=S.out:=by rw[l6,hS2]
           rw[this,ho]at q4;exact q4
 · rw[if_neg hp]
   refine bad (.inl ?_)
   rw[hS2,hS1]
   unfold wm
   by_cases q1:S.at_+5≤8* c.text.size
   · simp only[if_pos q1];rw[if_neg (by omega)];simp [wQ,he]
   · simp only[if_neg q1,wQ,he,if_true];split<;>simp
def AO (t : ByteArray) (most : Int) (p : Nat) (out : List Nat) : Except Int (Bool × Nat × List Nat) :=
 if p+3≤8* t.size then
  let r:Rs:=if wz t (p+1) 2=0 then DM t most (p+3) out
   else if wz t (p+1) 2=1 then yJ t most wO (List.replicate 30 5) (8* t.size+1) (p+3) out
   else if wz t (p+1) 2=2 then Ke t most (p+3) out
   else .error 700
  match r with
  | .ok q=>.ok (wz t p 1==1,q.1,q.2)
  | .error k=>.error k
 else .error 700
def QM (r:Except Int (Bool×Nat×List Nat)) (b:Bool) (S:SS):Prop:=match r with
 | .ok q=>b=q.1∧S=⟨q.2.1,q.2.2,0⟩
 | .error k=>S.e=k∧k≠0
theorem BN:wO.length=288:=by simp only[wO,vV,VR]
theorem IG:z7 wO:=by
 intro y hy
 simp only[wO,VY]at hy
 rcases hy with hy|hy|hy|hy<;>(obtain⟨_,rfl⟩:=List.mem_replicate.1 hy;omega)
theorem Kh:z7 (List.replicate 30 5):=by
 intro y hy
 obtain⟨_,rfl⟩:=List.mem_replicate.1 hy;omega
theorem MT {c : SC} {S : SS} {h : H} {ov : AV} (st : St c S h ov) (he : S.e = 0) :
 ∃h' ov' S' b,aR AP.A 15 [.aE c.s 0] h=some (.bool b,h')∧St c S' h' ov'∧Fr c h ov h' ov'∧QM (AO c.text c.most S.at_ S.out) b S':=by
 obtain⟨h1,a1,a2,a3⟩:=Ak st 1 1 rfl (by omega)
 obtain⟨h2,b1,b2,b3⟩:=Ak a2 2 2 rfl (by omega)
 obtain⟨A,hA⟩:∃n,n=(wm c 1 S).1:=⟨_,rfl⟩
 obtain⟨S1,hS1⟩:∃n,n=(wm c 1 S).2:=⟨_,rfl⟩
 rw[←hA]at a1;rw[←hS1]at a2 b1 b2
 obtain⟨B,hB⟩:∃n,n=(wm c 2 S1).1:=⟨_,rfl⟩
 obtain⟨S2,hS2⟩:∃n,n=(wm c 2 S1).2:=⟨_,rfl⟩
 rw[←hB]at b1;rw[←hS2]at b2
 have gs2:=b2.gs
 have fr2:=a3.trans b3
 obtain⟨lb,hlb⟩:∃b:Bool,b=((A:Int)==1):=⟨_,rfl⟩
 unfold AO
 by_cases hp:S.at_+3≤8* c.text.size
 · rw [if_pos hp]
   have e1:wm c 1 S=(wz c.text S.at_ 1,{S with at_:=S.at_+1}):=by rw[wm,if_pos (by omega)]
   rw[e1]at hA hS1;dsimp only at hA hS1
   have e2:wm c 2 {S with at_:=S.at_+1}=(wz c.text (S.at_+1) 2,{S with at_:=S.at_+1+2}):=by rw[wm,if_pos (by show S.at_+1+2≤_;omega)]
   rw[hS1,e2]at hB hS2;dsimp only at hB hS2
   have he2:S2.e=0:=by rw[hS2];exact he
   have hat:S2.at_=S.at_+3:=by rw[hS2]
   have hout:S2.out=S.out:=by rw[hS2]
   dsimp only
   rw[←hA,←hB]
   have hlb2:lb=(A==1):=by
    rw[hlb];by_cases q:A=1
    · subst q;rfl
    · rw[uR (by omega)];symm;simp [q]
   have wrap:∀(r:Rs) (h':H) (ov':AV) (S':SS),aR AP.A 15 [.aE c.s 0] h=some (.bool lb,h')→St c S' h' ov'→Fr c h2 ov h' ov'→Fin r S'→∃h' ov' S' b,aR AP.A 15 [.aE c.s 0] h=some (.bool b,h')∧St c S' h' ov'∧Fr c h ov h' ov'∧QM (match r with| .ok q=>.ok (A==1,q.1,q.2)| .error k=>.error k) b S':=by
    intro r h' ov' S' q1 q2 q3 q4
    refine⟨h',ov',S',lb,q1,q2,fr2.trans q3, ?_⟩
    cases r with
    |ok q=>exact⟨hlb2,q4⟩
    |error k=>exact q4
   have c0:(S2.e==0)=true:=uS he2
   by_cases d0:B=0
   · rw[if_pos d0]
     obtain⟨h',ov',S',q1,q2,q3,q4⟩:=Mx b2 he2
     rw[hat,hout]at q4
     refine wrap _ h' ov' S' ?_ q2 q3 q4
     have d0':((B:Int)==0)=true:=uS (by omega)
     refine um (fn:=AP.f15) (e:=[(2,.bool lb)]) rfl rfl rfl ?_ rfl
     simp only[I]at *
     simp only[AP.f15,go_sem,a1,b1,←hlb,d0',gs2,c0,q1]
   · rw [if_neg d0]
     have d0':((B:Int)==0)=false:=uR (by omega)
     by_cases d1:B=1
     · rw[if_pos d1]
       have d1':((B:Int)==1)=true:=uS (by omega)
       have f1:=Jv h2
       have m1:=A9 h2 (xg wO) wO (by rw[BN];omega) IG (yB _ _)
       have al:=b2.alloc [I 5]
       have r1:=zM (h2.alloc [I 5]) (.aF h2.next 0 1 1) 5 30 (by omega) (Bx _ _)
       have r1':aR AP.A 43 [.aF h2.next 0 1 1,I 30] (h2.alloc [I 5])=some (xg (List.replicate 30 5),h2.alloc [I 5]):=by
        rw[xg,VR];exact r1
       have m2:=A9 (h2.alloc [I 5]) (xg (List.replicate 30 5)) (List.replicate 30 5) (by rw[VR];omega) Kh (yB _ _)
       obtain⟨h',ov',S',q1,q2,q3,q4⟩:=Jj wO (List.replicate 30 5) (by rw[BN];omega) (by rw[VR];omega) al.1 he2
       rw[hat,hout]at q4
       refine wrap _ h' ov' S' ?_ q2 (al.2.trans q3) q4
       refine um (fn:=AP.f15) (e:=[(2,.bool lb)]) rfl rfl rfl ?_ rfl
       clear r1
       generalize wN wO=bf at *
       generalize wN (List.replicate 30 5)=bd at *
       generalize xg wO=vf at *
       generalize xg (List.replicate 30 5)=vd at *
       simp only[I]at *
       simp only[AP.f15,go_sem,a1,b1,←hlb,d0',d1',f1,m1,QT,I,r1',m2,q1]
     · rw[if_neg d1]
       have d1':((B:Int)==1)=false:=uR (by omega)
       by_cases d2:B=2
       · rw[if_pos d2]
         have d2':((B:Int)==2)=true:=uS (by omega)
         obtain⟨h',ov',S',q1,q2,q3,q4⟩:=Kf b2 he2
         rw[hat,hout]at q4
         refine wrap _ h' ov' S' ?_ q2 q3 q4
         refine um (fn:=AP.f15) (e:=[(2,.bool lb)]) rfl rfl rfl ?_ rfl
         simp only[I]at *
         simp only[AP.f15,go_sem,a1,b1,←hlb,d0',d1',d2',q1]
       · rw[if_neg d2]
         have d2':((B:Int)==2)=false:=uR (by omega)
         obtain⟨h',q1,q2,q3⟩:=yz b2 700
         refine wrap (.error 700) h' ov _ ?_ q2 q3 ⟨by simp [wQ,he2],by decide⟩
         refine um (fn:=AP.f15) (e:=[(2,.bool lb)]) rfl rfl rfl ?_ rfl
         simp only[I]at *
         simp only[AP.f15,go_sem,a1,b1,←hlb,d0',d1',d2',q1]
 · rw [if_neg hp]
   have hB0:B=0∧S2.e=700:=by
    by_cases q1:S.at_+1≤8* c.text.size
    · have e1:wm c 1 S=(wz c.text S.at_ 1,{S with at_:=S.at_+1}):=by rw[wm,if_pos q1]
      rw[e1]at hS1;dsimp only at hS1
      have e2:wm c 2 S1=(0,{S1 with e:=700}):=by rw[wm,if_neg (by rw[hS1];show¬S.at_+1+2≤_;omega),wQ,if_pos (by rw[hS1];exact he)]
      rw[e2]at hB hS2
      exact⟨hB,by rw[hS2]⟩
    · have e1:wm c 1 S=(0,{S with e:=700}):=by rw[wm,if_neg q1,wQ,if_pos he]
      rw[e1]at hS1;dsimp only at hS1
      have e2:wm c 2 S1=(0,S1):=by rw[wm,if_neg (by rw[hS1];show¬S.at_+2≤_;omega),wQ,if_neg (by rw[hS1];simp)]
      rw[e2]at hB hS2
      exact⟨hB,by rw[hS2,hS1]⟩
   have d0':((B:Int)==0)=true:=uS (by omega)
   have c0:(S2.e==0)=false:=uR (by rw[hB0.2];decide)
   refine⟨h2,ov,S2,lb, ?_,b2,fr2,hB0.2,by decide⟩
   refine um (fn:=AP.f15) (e:=[(2,.bool lb)]) rfl rfl rfl ?_ rfl
   simp only[I]at *
   simp only[AP.f15,go_sem,a1,b1,←hlb,d0',gs2,c0]
def Bs (t : ByteArray) (most : Int) : Nat → Nat → List Nat → Rs
 |0,_,_=>.error 700
 | f + 1, p, out => match AO t most p out with
   | .error k=>.error k
   | .ok (last,p2,o)=>if last then .ok (p2,o)else Bs t most f p2 o
theorem Hx {c:SC} {S:SS} {h:H} {ov:AV} (st:St c S h ov) (b:Bool) (hs:b=true∨S.e≠0):
 ∃e',Lp AP.A [7,8] AP.f7L0 [(7,.aE c.s 0),(8,.bool b)] h=some (.exit 0,e',h)∧look e' 7=.aE c.s 0:=by
 have gs:=st.gs
 refine⟨[(7,.aE c.s 0),(28,.bool false)],tW ?_,rfl⟩
 cases b with
 | true =>
   simp only[I]at *
   simp only[AP.f7L0,go_sem]
 | false =>
   have c2:(S.e==0)=false:=uR (by rcases hs with q|q;cases q;exact q)
   simp only[I]at *
   simp only[AP.f7L0,go_sem,gs,c2]
theorem FT {t:ByteArray} {most:Int}:∀{n p:Nat} {out:List Nat} {p2:Nat} {o:List Nat},z9 t most n p out=.ok (p2,o)→p≤p2
 |0,p,out,p2,o,h=>by rw[z9]at h;cases h;exact vB _
 | n + 1, p, out, p2, o, h => by
   rw[z9]at h
   split at h
   · split at h
     · cases h
     · have:=FT h;omega
   · cases h
theorem Bn {t : ByteArray} {most : Int} {ll dl : List Int} : ∀ {k p : Nat} {out : List Nat} {p2 : Nat} {o : List Nat}, yJ t most ll dl k p out = .ok (p2, o) → p < p2
 |0,_,_,_,_,h=>by cases h
 | k + 1, p, out, p2, o, h => by
   rw[yJ]at h
   split at h
   · cases h
   · rename_i y p1 hs
     have sb:=zZ hs
     split at h
     · split at h
       · cases h
       · have:=Bn h;omega
     · split at h
       · cases h;omega
       · split at h
         · rename_i p3 o3 hc
           have:=Hb hc
           have:=Bn h;omega
         · cases h
theorem Dq {t : ByteArray} {cl : List Int} {many : Nat} : ∀ {f : Nat} {acc : List Int} {p : Nat} {L : List Int} {p2 : Nat}, xI t cl many f acc p = some (L, p2) → p ≤ p2
 |0,_,_,_,_,h=>by cases h
 | f + 1, acc, p, L, p2, h => by
   rw[xI]at h
   split at h
   · split at h
     · cases h
     · rename_i y p1 hs
       have sb:=zZ hs
       split at h
       · cases h
       · rename_i n times q hag
         have:=Dq h
         have:p1≤q:=by
          unfold Ax at hag
          repeat' split at hag
          all_goals first
           |(cases hag;done)
           |(have:=Wj (fun o=>o.map (·.2.2)) hag;simp only[VG,vp]at this;omega)
         omega
   · split at h
     · cases h
     · have:=Wj (fun o=>o.map (·.2)) h
       simp only[VG,vp]at this;omega
theorem J9 {t : ByteArray} {most : Int} {p : Nat} {out : List Nat} {q : Bool × Nat × List Nat} (h : AO t most p out = .ok q) : p < q.2.1 := by
 unfold AO at h
 split at h
 · dsimp only at h
   have key:∀{r:Rs},(match r with| .ok q=>Except.ok (wz t p 1==1,q.1,q.2)| .error k=>.error k)=Except.ok (ε:=Int) q→∃z,r=.ok z∧z.1=q.2.1:=by
    intro r h
    cases r with
    |ok z=>cases h;exact⟨z,rfl,rfl⟩
    |error k=>cases h
   obtain⟨z,h1,h2⟩:=key h
   rw[←h2]
   split at h1
   · unfold DM at h1
     dsimp only at h1
     split at h1
     · split at h1
       · have:=FT h1;omega
       · cases h1
     · cases h1
   · split at h1
     · have:=Bn h1;omega
     · split at h1
       · unfold Ke at h1
         split at h1
         · dsimp only at h1
           split at h1
           · cases h1
           · split at h1
             · cases h1
             · rename_i L p2 hl
               split at h1
               · cases h1
               · have:=Bn h1
                 have:p+3≤p2:=by
                  unfold zV at hl
                  split at hl
                  · dsimp only at hl
                    split at hl
                    · split at hl
                      · have:=Dq hl;omega
                      · cases hl
                    · cases hl
                  · cases hl
                 omega
         · cases h1
       · cases h1
 · cases h
theorem Hw {c : SC} : ∀ (f : Nat) (S : SS) (h : H) (ov : AV), St c S h ov → S.e = 0 → 8 * c.text.size < S.at_ + f →
 ∃e' h' ov' S',Lp AP.A [7,8] AP.f7L0 [(7,.aE c.s 0),(8,.bool false)] h=some (.exit 0,e',h')∧look e' 7=.aE c.s 0∧St c S' h' ov'∧Fr c h ov h' ov'∧Fin (Bs c.text c.most f S.at_ S.out) S'
 |0,S,h,ov,st,he,hk=>by have:=st.Aa;omega
 | f + 1, S, h, ov, st, he, hk => by
   have gs:=st.gs
   obtain⟨h1,ov1,S1,b,q1,q2,q3,q4⟩:=MT st he
   have step:aL (aR AP.A) bp AP.f7L0 (ay [(7,.aE c.s 0),(8,.bool false)] [7,8]) h=some (.normal,[(7,.aE c.s 0),(8,.bool b)],h1):=by
    simp only[I]at *
    simp only[AP.f7L0,go_sem,gs,he,q1]
   rw[Bs]
   cases hb:AO c.text c.most S.at_ S.out with
   | error k =>
     rw[hb]at q4
     obtain⟨e',r1,r2⟩:=Hx q2 b (.inr (by rw[q4.1];exact q4.2))
     exact⟨e',h1,ov1,S1,tX step r1,r2,q2,q3,q4⟩
   | ok z =>
     obtain⟨last,p2,o⟩:=z
     rw[hb]at q4
     obtain⟨q5,q6⟩:=q4
     dsimp only at q5 q6 ⊢
     subst q5
     cases b with
     | true =>
       obtain⟨e',r1,r2⟩:=Hx q2 true (.inl rfl)
       exact⟨e',h1,ov1,S1,tX step r1,r2,q2,q3,q6⟩
     | false =>
       have hge:=J9 hb
       dsimp only at hge
       subst q6
       obtain⟨e',h',ov',S',r1,r2,r3,r4,r5⟩:=Hw f _ h1 ov1 q2 rfl (by dsimp only;omega)
       exact⟨e',h',ov',S',tX step r1,r2,r3,q3.trans r4,r5⟩
def bytesOf (l:List Nat):ByteArray:=⟨(l.map UInt8.ofNat).toArray⟩
def A6 (t:ByteArray) (most:Int):Except Int (List Nat×Nat):=
 if most<0∨8192<most then .error 700 else
 match Bs t most (8* t.size+1) 0 []with
 | .ok q=>.ok (q.2,(q.1+7)/8)
 | .error k=>.error k
def T4 (r:Except Int (List Nat×Nat)):AV:=match r with
 | .ok q=>.bL [.str (bytesOf q.1),I q.2,I 0]
 | .error k=>.bL [.str ⟨#[]⟩,I 0,I k]
theorem F8:∀l:List Nat,kW (yI l)=some (l.map UInt8.ofNat)
 |[]=>rfl
 | x :: l => by
   have:yI (x::l)=.int .u8 x::yI l:=rfl
   rw[this,kW,F8 l];simp
theorem MQ {h:H} {v:AV} {l:List Nat} (o:nT h v (yI l)):uD h v (aS h 1 v)=some (.str (bytesOf l),h):=by
 rcases o with ⟨rfl,q⟩|⟨id,rfl,q,_⟩
 · have:l=[]:=by cases l with|nil=>rfl|cons _ _=>cases q
   subst this;rfl
 · simp only[aS,if_true,q,vu]
   rw[if_pos (by omega)]
   have:((yI l).drop 0).take ((yI l).length* 1)=yI l:=by rw[VW,Nat.mul_one,List.take_length]
   rw[this]
   simp only[uD,vu,F8];rfl
theorem Kl (h : H) (hf : h.floor ≤ h.next) (t : ByteArray) (most : Int) (hs : t.size < 1125899906842624) : aR AP.A 7 [.str t, I most] h = some (T4 (A6 t most), h) := by
 unfold A6
 by_cases c1:most<0
 · rw[if_pos (.inl c1)]
   refine uL (fn:=AP.f7) (h2:=h.dQ) (e:=[(4,.str ⟨#[]⟩),(5,I 0),(6,I 700)]) rfl rfl rfl ?_ rfl rfl
   simp only[I]at *
   simp only[AP.f7,go_sem,VE c1]
 by_cases c2:8192<most
 · rw[if_pos (.inr c2)]
   refine uL (fn:=AP.f7) (h2:=h.dQ) (e:=[(4,.str ⟨#[]⟩),(5,I 0),(6,I 700)]) rfl rfl rfl ?_ rfl rfl
   simp only[I]at *
   simp only[AP.f7,go_sem,VD c1,VE c2]
 rw[if_neg (by omega)]
 obtain⟨h1,hh1⟩:∃g,g=h.dQ.alloc [.str t,I 0]:=⟨_,rfl⟩
 obtain⟨h2,hh2⟩:∃g,g=h1.alloc [.aE h.next 0,.aP,I most,I 0]:=⟨_,rfl⟩
 have of1:=T8 h.dQ t
 rw[←hh1]at of1
 have n1:h1.next=h.next+1:=by rw[hh1];simp
 have st:St ⟨h.next+1,h.next,t,most⟩ ⟨0,[],0⟩ h2 .aP:=by
  refine⟨?_, ?_,.inl ⟨rfl,rfl⟩,by simp, ?_, ?_,by simp [AV.id?],by simp [AV.id?], ?_,hs,by simp,by simp;omega,by show most≤900000;omega⟩
  · rw[hh2,H.aW,if_pos n1.symm]
  · rw[hh2,H.aW,if_neg (by show h.next≠h1.next;omega),hh1,H.aW,if_pos (show h.next=h.dQ.next from rfl)];rfl
  · rw[hh2,hh1];simp
  · rw[hh2,hh1];simp
  · rw[hh2,hh1];simp;omega
 obtain⟨e',h3,ov,S,q1,q2,q3,q4,q5⟩:=Hw (8* t.size+1) ⟨0,[],0⟩ h2 .aP st rfl (by show 8* t.size<0+(8* t.size+1);omega)
 have gs:=q3.gs
 have bx:∀e:Env,look e 18=.agg [.aE h.next 0,.aP,.int .i64 most,.int .i64 0]→aY e (.box 4 (.t 18))=some ([.aE h.next 0,.aP,.int .i64 most,.int .i64 0],fun i=>.aE i 0):=by
  intro e q;simp only[aY,sZ,q];rfl
 have fl:dR [.cm,.aP,.int .i64 0,.int .i64 0] [(0,1,.aE h.next 0),(2,1,.int .i64 most)]=some [.aE h.next 0,.aP,.int .i64 most,.int .i64 0]:=rfl
 have hn:h.dQ.next=h.next:=rfl
 dsimp only at q5
 cases hi:Bs t most (8* t.size+1) 0 []with
 | error k =>
   rw[hi]at q5
   have c3:(S.e !=0)=true:=uU (by rw[q5.1];exact q5.2)
   have hk:S.e=k:=q5.1
   refine uL (fn:=AP.f7) (h2:=h3) (e:=[(4,.str ⟨#[]⟩),(5,I 0),(6,I k)]) rfl rfl rfl ?_ rfl rfl
   simp only[I]at *
   simp only[AP.f7,go_sem,VD c1,VD c2,of1,hn,VK,Wk,fl]
   rw[bx _ rfl]
   rw[hk]at gs c3
   simp only[go_sem,←hh2,n1,sX,q1,q2,gs,c3]
 | ok z =>
   obtain⟨p,o⟩:=z
   rw[hi]at q5
   simp only[Fin]at q5
   have c3:(S.e !=0)=false:=uT (by rw[q5])
   obtain⟨h4,a1,a2,a3⟩:=q3.align
   have gs4:=a2.gs
   have gr4:=a2.gr
   have at4:=Tt h4 h.next t _ gr4
   have hb:=MQ a2.own
   subst q5
   dsimp only at gs4 gr4 at4 hb a2 gs c3
   have hle:=a2.Aa
   dsimp only at hle
   have qd:bj .quo (.int .i64 (((p+7)/8* 8:Nat):Int)) (.int .i64 8)=some (.int .i64 (((p+7)/8:Nat):Int)):=by
    rw[sK _ _ _ (by omega),show(8:Int)=((8:Nat):Int)from rfl,zf,Nat.mul_div_cancel _ (by omega),vZ (by omega)]
   refine uL (fn:=AP.f7) (h2:=h4) (e:=[(4,.str (bytesOf o)),(5,I ((p+7)/8:Nat)),(6,I 0)]) rfl rfl rfl ?_ rfl rfl
   generalize (p+7)/8* 8=P8 at *
   generalize (p+7)/8=P at *
   simp only[I]at *
   simp only[AP.f7,go_sem,VD c1,VD c2,of1,hn,VK,Wk,fl]
   rw[bx _ rfl]
   simp only[go_sem,←hh2,n1,sX,q1,q2,gs,c3,a1]
   rw[KS (e':=[(6,.int .i64 0),(5,.int .i64 P),(4,.str (bytesOf o)),(55,.int .i64 P),(54,.int .i64 P8),(53,.aE h.next 0),(52,.aE (h.next+1) 0),(51,.aE (h.next+1) 0),(50,.aE (h.next+1) 0),(49,.str (bytesOf o)),(48,ov),(47,.aE (h.next+1) 1),(46,.aE (h.next+1) 0),(45,.aE (h.next+1) 0),(7,.aE (h.next+1) 0)]) (h':=h4) (gs:=[h4,h4])]
   · simp only[go_sem]
   · simp only[CC,Gs,Gg,GA,Gz,bT.aO,go_sem,gs4,hb,at4,qd]
   · refine C8 (fun k hk=> ?_) (C8 (fun k hk=> ?_) rfl)
     · obtain rfl:k=1:=by simpa using hk
       refine C7 (o:=⟨some 48,.load false 1 (.t 47),none⟩) (g:=h4) (h':=h4) (d:=48) (u:=ov) rfl rfl rfl rfl ?_ ?_
       · simp only[aj,go_sem,gs4]
       · simp only[go_sem]
         rcases a2.own with ⟨rfl,_⟩|⟨id,rfl,_⟩
         · rfl
         · exact DR _ _ _ _
     · obtain rfl:k=1:=by simpa using hk
       refine C7 (o:=⟨some 49,.kW (.t 48),none⟩) (g:=h4) (h':=h4) (d:=49) (u:=.str (bytesOf o)) rfl rfl rfl rfl ?_ ?_
       · simp only[aj,go_sem,hb]
       · simp only[go_sem,DC]
theorem NP (h:H) (n:Int):aR AP.A 9 [I n] h=some (I n,h):=by
 refine uL (fn:=AP.f9) (h2:=h.dQ) (e:=[(2,I n)]) rfl rfl rfl ?_ rfl rfl
 simp only[I]at *
 simp only[AP.f9,go_sem]
theorem G2 {a b:Nat} (ha:a<256) (hb:b<256):bits .or .u8 (a:Int) (b:Int)=((a|||b:Nat):Int):=by
 have h3:a|||b<2^8:=Nat.or_lt_two_pow (by simpa using ha) (by simpa using hb)
 show IntKind.wrap .u8 (((BitVec.ofInt 8 (a:Int)|||BitVec.ofInt 8 (b:Int)).toNat:Nat):Int)=_
 rw[BitVec.toNat_or,zD 8 a (by omega),zD 8 b (by omega)]
 exact wrap_u8 (by simpa using h3)
def w9 (out:List Nat) (i:Nat) (b:Nat):List Nat:=
 let o:=if i%8=0 then out++[0]else out
 o.set (i/8) (o.getD (i/8) 0|||b* 2^(i%8))
def yc:List Nat→Nat→List Nat→List Nat
 |[],_,out=>out
 |b::r,i,out=>yc r (i+1) (w9 out i b)
theorem Dr {out:List Nat} {i b:Nat} (h:out.length=(i+7)/8):(w9 out i b).length=(i+1+7)/8:=by
 unfold w9
 dsimp only
 rw[VT]
 split
 · rw[vV,h];simp;omega
 · rw[h];omega
theorem Bb {out:List Nat} {i b:Nat} (hb:b≤1) (h:Iu out):Iu (w9 out i b):=by
 have h1:Iu (if i%8=0 then out++[0]else out):=by
  split
  · intro x hx
    rcases VY.1 hx with q|q
    · exact h x q
    · simp at q;omega
  · exact h
 intro x hx
 unfold w9 at hx
 dsimp only at hx
 rcases V0 hx with q|q
 · exact h1 x q
 · subst q
   have h2:(if i%8=0 then out++[0]else out).getD (i/8) 0<2^8:=by
    rw[Vx]
    cases hg:(if i%8=0 then out++[0]else out)[i/8]? with
    |none=>simp
    |some y=>simpa using h1 y (vE hg)
   have h3:b* 2^(i%8)<2^8:=by
    have:2^(i%8)≤2^7:=VO (by omega) (by omega)
    have:b* 2^(i%8)≤1* 2^7:=Wn hb this
    omega
   simpa using Nat.or_lt_two_pow h2 h3
theorem nT.set {h:H} {v:AV} {cs:List AV} (o:nT h v cs) {i:Nat} (hi:i<cs.length) (x:AV):∃id,v=.aF id 0 cs.length 1∧h.get id=some cs∧h.floor≤id∧nT (h.set id (cs.set i x)) v (cs.set i x):=by
 rcases o with ⟨rfl,rfl⟩|⟨id,rfl,h1,h2,h3⟩
 · simp at hi
 · exact⟨id,rfl,h1,h2,.inr ⟨id,by simp,by rw[H.dw,if_pos rfl,h1];rfl,by simpa using h2,by intro e;apply h3;have:=Wj List.length e;simpa using this⟩⟩
theorem GR {x y:ByteArray} (h:x.size+y.size≤9223372036854775807):bj .add (.str x) (.str y)=some (.str (x++y)):=by
 simp only[bj,jU,if_pos h]
structure UN (a t:ByteArray):Prop where
 sz:a.size≤t.size
 bit:∀i,i<8* a.size→ym a i=ym t i
section
variable {a t:ByteArray} (h:UN a t)
include h
end
variable {t:ByteArray} {most most':Int}
theorem xC (l:List Nat):(bytesOf l).size=l.length:=by
 show(l.map UInt8.ofNat).toArray.size=_
 simp
structure FC where
 f:Nat
 text:ByteArray
 most:Int
structure Ft (c:FC) (S:SS) (h:H) (ov:AV):Prop where
 gf:h.get c.f=some [.str c.text,I S.at_,ov,I c.most,I S.e]
 own:nT h ov (yI S.out)
 ff:h.floor≤c.f
 of:ov.id?≠some c.f
 nx:h.floor≤h.next
 sz:c.text.size<1125899906842624
 Aa:S.at_≤8* c.text.size
 ol:(S.out.length:Int)≤c.most
 ml:c.most≤900000
structure FF (c:FC) (h:H) (ov:AV) (h':H) (ov':AV):Prop where
 fl:h'.floor=h.floor
 nx:h.next≤h'.next
 Iv:∀id,id<h.next→id≠c.f→ov.id?≠some id→h'.get id=h.get id
 nb:∀i,ov'.id?=some i→ov.id?=some i∨h.next≤i
theorem FF.refl (c:FC) (h:H) (ov:AV):FF c h ov h ov:=⟨rfl,vB _,fun _ _ _ _=>rfl,fun _ q=>.inl q⟩
theorem FF.trans {c:FC} {h1 h2 h3:H} {o1 o2 o3:AV} (a:FF c h1 o1 h2 o2) (b:FF c h2 o2 h3 o3):FF c h1 o1 h3 o3:=by
 refine⟨b.fl.trans a.fl,vT a.nx b.nx,fun id h4 h5 h7=> ?_,fun i hi=> ?_⟩
 · rw[b.Iv id (Nat.lt_of_lt_of_le h4 a.nx) h5 (fun q=> ?_),a.Iv id h4 h5 h7]
   rcases a.nb id q with q|q
   · exact h7 q
   · omega
 · rcases b.nb i hi with q|q
   · exact a.nb i q
   · exact .inr (vT a.nx q)
theorem Ft.xc {c:FC} {S:SS} {h h':H} {ov:AV} (st:Ft c S h ov) (hf:h'.floor=h.floor) (hn:h.next≤h'.next) (hg:∀i,i=c.f∨ov.id?=some i→h'.get i=h.get i):Ft c S h' ov:=
 ⟨by rw[hg _ (.inl rfl)];exact st.gf,st.own.mono hf fun i hi=>hg i (.inr hi),by rw[hf];exact st.ff,st.of,by rw[hf];exact vT st.nx hn,st.sz,st.Aa,st.ol,st.ml⟩
theorem Ft.lt {c:FC} {S:SS} {h:H} {ov:AV} (st:Ft c S h ov) {i:Nat} (hi:i=c.f∨ov.id?=some i):i<h.next:=by
 rcases hi with rfl|hi
 · exact h.lt _ _ st.gf
 · exact st.own.lt hi
theorem Ft.alloc {c:FC} {S:SS} {h:H} {ov:AV} (st:Ft c S h ov) (cs:List AV):Ft c S (h.alloc cs) ov∧FF c h ov (h.alloc cs) ov:=by
 refine⟨st.xc (by simp) (by simp) fun i hi=> ?_,⟨by simp,by simp,fun id h1 _ _=> ?_,fun _ q=>.inl q⟩⟩
 · have:=st.lt hi;rw[H.aW,if_neg (by omega)]
 · rw[H.aW,if_neg (by omega)]
structure Vs (h0 h:H) (b:Nat) (D:Nat→AV) (k:Nat) (p S0:List Int):Prop where
 get:h.get b=some (nU 17 D)
 fl:h.floor=h0.next
 fb:h0.next≤b
 nx:h.floor≤h.next
 low:∀id,id<h0.next→h.get id=h0.get id
 ck:D k=I (xM p k)
 own:nT h (D 16) (ints (S0++syms p k))
 nb:(D 16).id?≠some b
theorem Ji (n:Nat):xM [] n=0:=by unfold xM;split<;>rfl
theorem HF (h:H) (y:Nat) (hy:y<1000000):aR AP.A 50 [I y] h=some (Bm (lenOf y),h):=by
 by_cases c1:y≤256
 · rw[lenOf,if_pos (.inl c1)]
   refine uL (fn:=AP.f50) (h2:=h.dQ) (e:=[(2,I 0),(3,I 0),(4,I 600)]) rfl rfl rfl ?_ rfl rfl
   have c1':(y:Int)<257:=by omega
   simp only[I]at *
   simp only[AP.f50,go_sem,VE c1']
 have c1':¬(y:Int)<257:=by omega
 by_cases c2:285<y
 · rw[lenOf,if_pos (.inr c2)]
   refine uL (fn:=AP.f50) (h2:=h.dQ) (e:=[(2,I 0),(3,I 0),(4,I 600)]) rfl rfl rfl ?_ rfl rfl
   have c2':(285:Int)<y:=by omega
   simp only[I]at *
   simp only[AP.f50,go_sem,VD c1',VE c2']
 have c2':¬(285:Int)<y:=by omega
 rw[lenOf,if_neg (by omega)]
 by_cases c3:y=285
 · rw[if_pos c3]
   refine uL (fn:=AP.f50) (h2:=h.dQ) (e:=[(2,I 258),(3,I 0),(4,I 0)]) rfl rfl rfl ?_ rfl rfl
   have c3':((y:Int)==285)=true:=uS (by omega)
   simp only[I]at *
   simp only[AP.f50,go_sem,VD c1',VD c2',c3']
 rw[if_neg c3]
 have c3':((y:Int)==285)=false:=uR (by omega)
 by_cases c4:y<265
 · rw[if_pos c4]
   refine uL (fn:=AP.f50) (h2:=h.dQ) (e:=[(2,I (y-254:Nat)),(3,I 0),(4,I 0)]) rfl rfl rfl ?_ rfl rfl
   have c4':(y:Int)<265:=by omega
   have w3:IntKind.wrap .i64 ((y:Int)-254)=((y-254:Nat):Int):=by rw[show(y:Int)-254=((y-254:Nat):Int)by omega];exact vZ (by omega)
   simp only[I]at *
   simp only[AP.f50,go_sem,VD c1',VD c2',c3',VE c4',w3]
 rw[if_neg c4]
 have c4':¬(y:Int)<265:=by omega
 obtain⟨k,hk⟩:∃k:Nat,y-261=k:=⟨_,rfl⟩
 have w1:IntKind.wrap .i64 ((y:Int)-261)=(k:Int):=by rw[show(y:Int)-261=(k:Int)by omega];exact vZ (by omega)
 rw[show(y-257)/4-1=k/4-0 by omega,Nat.sub_zero,show(y-257)%4=k%4 by omega]
 have q1:bj .quo (.int .i64 (k:Int)) (.int .i64 4)=some (.int .i64 ((k/4:Nat):Int)):=by
  rw[sK _ _ _ (by omega),show(4:Int)=((4:Nat):Int)from rfl,zf,vZ (by omega)]
 have q2:bj .rem (.int .i64 (k:Int)) (.int .i64 4)=some (.int .i64 ((k%4:Nat):Int)):=by
  rw[sM _ _ _ (by omega),show(4:Int)=((4:Nat):Int)from rfl,Bi]
 have w4:IntKind.wrap .i64 (4+((k%4:Nat):Int))=((4+k%4:Nat):Int):=by rw[show 4+((k%4:Nat):Int)=((4+k%4:Nat):Int)by omega];exact vZ (by omega)
 have hp:2^(k/4)≤2^5:=VO (by omega) (by omega)
 have hm:(4+k%4)* 2^(k/4)≤7* 2^5:=Wn (by omega) hp
 have q3:pP .shl .i64 ((4+k%4:Nat):Int) ((k/4:Nat):Int)=some (.int .i64 (((4+k%4)* 2^(k/4):Nat):Int)):=yL (by omega) (by omega)
 generalize (4+k%4)* 2^(k/4)=P at *
 have w5:IntKind.wrap .i64 (3+(P:Int))=((3+P:Nat):Int):=by rw[show 3+(P:Int)=((3+P:Nat):Int)by omega];exact vZ (by omega)
 refine uL (fn:=AP.f50) (h2:=h.dQ) (e:=[(2,I (3+P:Nat)),(3,I (k/4:Nat)),(4,I 0)]) rfl rfl rfl ?_ rfl rfl
 simp only[I]at *
 simp only[AP.f50,go_sem,VD c1',VD c2',c3',VD c4',w1,q1,q2,w4,q3,w5]
theorem E9 (h:H) (y:Nat) (hy:y<1000000):aR AP.A 51 [I y] h=some (Bm (wI y),h):=by
 have c0:¬(y:Int)<0:=by omega
 by_cases c1:30≤y
 · rw[wI,if_pos c1]
   refine uL (fn:=AP.f51) (h2:=h.dQ) (e:=[(2,I 0),(3,I 0),(4,I 600)]) rfl rfl rfl ?_ rfl rfl
   have c1':(29:Int)<y:=by omega
   simp only[I]at *
   simp only[AP.f51,go_sem,VD c0,VE c1']
 have c1':¬(29:Int)<y:=by omega
 rw[wI,if_neg c1]
 by_cases c2:y<4
 · rw[if_pos c2]
   refine uL (fn:=AP.f51) (h2:=h.dQ) (e:=[(2,I (1+y:Nat)),(3,I 0),(4,I 0)]) rfl rfl rfl ?_ rfl rfl
   have c2':(y:Int)<4:=by omega
   have w3:IntKind.wrap .i64 ((y:Int)+1)=((1+y:Nat):Int):=by rw[show(y:Int)+1=((1+y:Nat):Int)by omega];exact vZ (by omega)
   simp only[I]at *
   simp only[AP.f51,go_sem,VD c0,VD c1',VE c2',w3]
 rw[if_neg c2]
 have c2':¬(y:Int)<4:=by omega
 have w1:IntKind.wrap .i64 ((y:Int)-2)=((y-2:Nat):Int):=by rw[show(y:Int)-2=((y-2:Nat):Int)by omega];exact vZ (by omega)
 have q1:bj .quo (.int .i64 ((y-2:Nat):Int)) (.int .i64 2)=some (.int .i64 ((y/2-1:Nat):Int)):=by
  rw[sK _ _ _ (by omega),show(2:Int)=((2:Nat):Int)from rfl,zf,vZ (by omega),show(y-2)/2=y/2-1 by omega]
 have q2:bj .rem (.int .i64 (y:Int)) (.int .i64 2)=some (.int .i64 ((y%2:Nat):Int)):=by
  rw[sM _ _ _ (by omega),show(2:Int)=((2:Nat):Int)from rfl,Bi]
 have w4:IntKind.wrap .i64 (2+((y%2:Nat):Int))=((2+y%2:Nat):Int):=by rw[show 2+((y%2:Nat):Int)=((2+y%2:Nat):Int)by omega];exact vZ (by omega)
 have hp:2^(y/2-1)≤2^13:=VO (by omega) (by omega)
 have hm:(2+y%2)* 2^(y/2-1)≤3* 2^13:=Wn (by omega) hp
 have q3:pP .shl .i64 ((2+y%2:Nat):Int) ((y/2-1:Nat):Int)=some (.int .i64 (((2+y%2)* 2^(y/2-1):Nat):Int)):=yL (by omega) (by omega)
 generalize (2+y%2)* 2^(y/2-1)=P at *
 have w5:IntKind.wrap .i64 (1+(P:Int))=((1+P:Nat):Int):=by rw[show 1+(P:Int)=((1+P:Nat):Int)by omega];exact vZ (by omega)
 refine uL (fn:=AP.f51) (h2:=h.dQ) (e:=[(2,I (1+P:Nat)),(3,I (y/2-1:Nat)),(4,I 0)]) rfl rfl rfl ?_ rfl rfl
 simp only[I]at *
 simp only[AP.f51,go_sem,VD c0,VD c1',VD c2',w1,q1,q2,w4,q3,w5]
theorem LY (h:H):aR AP.A 32 [] h=some (xg we,h):=by
 have b:aY [] (.cC 1 19 [.int .i64 0] [(0,(.c (.int .i64 16))),(1,(.c (.int .i64 17))),(2,(.c (.int .i64 18))),(3,(.c (.int .i64 0))),(4,(.c (.int .i64 8))),(5,(.c (.int .i64 7))),(6,(.c (.int .i64 9))),(7,(.c (.int .i64 6))),(8,(.c (.int .i64 10))),(9,(.c (.int .i64 5))),(10,(.c (.int .i64 11))),(11,(.c (.int .i64 4))),(12,(.c (.int .i64 12))),(13,(.c (.int .i64 3))),(14,(.c (.int .i64 13))),(15,(.c (.int .i64 2))),(16,(.c (.int .i64 14))),(17,(.c (.int .i64 1))),(18,(.c (.int .i64 15)))])=some (ints we,fun i=>.aF i 0 19 1):=rfl
 refine uL (fn:=AP.f32) (h2:=h.dQ.alloc (ints we)) (e:=[(0,.aF h.next 0 19 1)]) (vs:=[.aF h.next 0 19 1]) rfl rfl rfl ?_ rfl ?_
 · have hn:h.dQ.next=h.next:=rfl
   simp only[AP.f32,go_sem,b,hn]
 · show snap (h.dQ.alloc (ints we)).get h.next 16 true (.aF h.next 0 19 1)=_
   unfold snap
   rw[if_neg (by omega),H.aW,if_pos (show h.next=h.dQ.next from rfl),vu,if_pos (by decide)]
   rw[show((ints we).drop 0).take (19* 1)=ints we from rfl,yE];rfl
theorem yj {h:H} {v:AV} {l:List Int} {fl:Nat} (o:nT h v (ints l)) (hf:fl≤h.floor) (hl:l≠[]):snap h.get fl 16 true v=some (xg l):=by
 rcases o with ⟨_,q⟩|⟨id,rfl,q,h2,_⟩
 · exact absurd (List.map_eq_nil_iff.1 q) hl
 · unfold snap
   rw[if_neg (by omega),q,vu,if_pos (by omega)]
   rw[VW,Nat.mul_one,List.take_length,yE]
   simp [xg]
def fixF (i:Nat):Int:=if 144≤i∧i<256 then 9 else if 256≤i∧i<280 then 7 else 8
theorem Dn : ∀ (m i : Nat) (h : H) (v : AV), i + m = 288 → nT h v (ints ((List.range i).map fixF)) → h.floor ≤ h.next →
 ∃e' h' v',Lp AP.A [1,2] AP.f22L0 [(1,v),(2,I i)] h=some (.exit 0,e',h')∧look e' 1=v'∧nT h' v' (ints ((List.range 288).map fixF))∧h'.floor=h.floor
 | 0, i, h, v, hm, o, hf => by
   obtain rfl:i=288:=by omega
   refine⟨[(1,v),(2,I 288),(5,.bool false)],h,v,tW ?_,rfl,o,rfl⟩
   have c1:¬(((288:Nat):Int)<288):=by omega
   simp only[I]at *
   simp only[AP.f22L0,go_sem,VD c1]
   rfl
 | m + 1, i, h, v, hm, o, hf => by
   have c1:(i:Int)<288:=by omega
   have w1:IntKind.wrap .i64 ((i:Int)+1)=((i+1:Nat):Int):=vZ (n:=i+1) (by omega)
   obtain⟨g,hg⟩:∃g,g=h.alloc [I (fixF i)]:=⟨_,rfl⟩
   have og:nT g v (ints ((List.range i).map fixF)):=o.mono (by rw[hg];simp) fun j hj=>by have:=o.lt hj;rw[hg,H.aW,if_neg (by omega)]
   have hgf:g.floor≤g.next:=by rw[hg];simp;omega
   obtain⟨v',h2,r1,r2,r3,r4,r5,r6⟩:=og.app hgf (z:=8) (I (fixF i)) rfl (by simp [roomy];omega)
   have src:aS g 1 (.aF h.next 0 1 1)=some (1,[I (fixF i)]):=by simp [aS,hg,H.aW]
   have ap:kS g 1 8 v (.aF h.next 0 1 1)=some (v',h2):=by unfold kS;rw[src,vu];exact r1
   have bt:∀e:Env,look e 21=.int .i64 (fixF i)→aY e (.cC 1 1 [.int .i64 0] [(0,.t 21)])=some ([.int .i64 (fixF i)],fun i=>.aF i 0 1 1):=by
    intro e q;simp only[aY,VK,Wk,sZ,q];rfl
   have hr:ints ((List.range i).map fixF)++[I (fixF i)]=ints ((List.range (i+1)).map fixF):=by
    rw[List.range_succ,List.map_append,qf];rfl
   rw[hr]at r2
   have step:aL (aR AP.A) bp AP.f22L0 (ay [(1,v),(2,I i)] [1,2]) h=some (.normal,[(1,v'),(2,I (i+1:Nat))],h2):=by
    clear hr
    by_cases q1:144≤i
    · have d1:(144:Int)≤i:=by omega
      by_cases q2:i<256
      · have d2:(i:Int)<256:=by omega
        have hx:fixF i=9:=by rw[fixF,if_pos ⟨q1,q2⟩]
        rw[hx]at hg bt
        simp only[I]at *
        simp only[AP.f22L0,go_sem,VE c1,VE d1,VE d2]
        rw[bt _ rfl]
        simp only[go_sem,←hg,ap,w1]
      · have d2:¬(i:Int)<256:=by omega
        have d3:(256:Int)≤i:=by omega
        by_cases q3:i<280
        · have d4:(i:Int)<280:=by omega
          have hx:fixF i=7:=by rw[fixF,if_neg (by omega),if_pos ⟨by omega,q3⟩]
          rw[hx]at hg bt
          simp only[I]at *
          simp only[AP.f22L0,go_sem,VE c1,VE d1,VD d2,VE d3,VE d4]
          rw[bt _ rfl]
          simp only[go_sem,←hg,ap,w1]
        · have d4:¬(i:Int)<280:=by omega
          have hx:fixF i=8:=by rw[fixF,if_neg (by omega),if_neg (by omega)]
          rw[hx]at hg bt
          simp only[I]at *
          simp only[AP.f22L0,go_sem,VE c1,VE d1,VD d2,VE d3,VD d4]
          rw[bt _ rfl]
          simp only[go_sem,←hg,ap,w1]
    · have d1:¬(144:Int)≤i:=by omega
      have d3:¬(256:Int)≤i:=by omega
      have hx:fixF i=8:=by rw[fixF,if_neg (by omega),if_neg (by omega)]
      rw[hx]at hg bt
      simp only[I]at *
      simp only[AP.f22L0,go_sem,VE c1,VD d1,VD d3]
      rw[bt _ rfl]
      simp only[go_sem,←hg,ap,w1]
   obtain⟨e',h',v2,s1,s2,s3,s4⟩:=Dn m (i+1) h2 v' (by omega) r2 (by rw[r3];exact vT hgf r4)
   exact⟨e',h',v2,tX step s1,s2,s3,by rw[s4,r3,hg];simp⟩
theorem Ki:(List.range 288).map fixF=wO:=by decide+kernel
theorem Ls (h:H):aR AP.A 22 [] h=some (xg wO,h):=by
 obtain⟨e',h',v',s1,s2,s3,s4⟩:=Dn 288 0 h.dQ .aP rfl (.inl ⟨rfl,rfl⟩) (vB _)
 have s1':Lp AP.A [1,2] AP.f22L0 [(1,.aP),(2,I 0)] h.dQ=some (.exit 0,e',h'):=s1
 clear s1
 rw[Ki]at s3
 refine uL (fn:=AP.f22) (h2:=h') (e:=[(0,v')]) (vs:=[v']) rfl rfl rfl ?_ rfl ?_
 · simp only[I]at *
   simp only[AP.f22,go_sem,sX,s1',s2]
 · exact yj s3 (by rw[s4];exact vB _) (by intro e;have:=Wj List.length e;rw[BN]at this;simp at this)
theorem Eb (id : Nat) : ∀ (m i : Nat) (h : H), i + m = 30 → h.get id = some (ints (List.replicate i 5 ++ List.replicate m 0)) → h.floor ≤ id →
 ∃e' h',Lp AP.A [1,2] AP.f23L0 [(1,.aF id 0 30 1),(2,I i)] h=some (.exit 0,e',h')∧look e' 1=.aF id 0 30 1∧h'.get id=some (ints (List.replicate 30 5))∧h'.floor=h.floor
 | 0, i, h, hm, hg, hf => by
   obtain rfl:i=30:=by omega
   refine⟨[(1,.aF id 0 30 1),(2,I 30),(5,.bool false)],h,tW ?_,rfl,hg,rfl⟩
   have c1:¬(((30:Nat):Int)<30):=by omega
   simp only[I]at *
   simp only[AP.f23L0,go_sem,VD c1]
   rfl
 | m + 1, i, h, hm, hg, hf => by
   have c1:(i:Int)<30:=by omega
   have w1:IntKind.wrap .i64 ((i:Int)+1)=((i+1:Nat):Int):=vZ (n:=i+1) (by omega)
   have ia:fP 1 (.aF id 0 30 1) (I i)=some (.aE id i):=by simp [fP,kE (show i<30 by omega)]
   have hset:(ints (List.replicate i 5++List.replicate (m+1) 0)).set i (I 5)=ints (List.replicate (i+1) 5++List.replicate m 0):=by
    have h1:(List.replicate i (5:Int)++List.replicate (m+1) 0).set i 5=List.replicate (i+1) 5++List.replicate m 0:=by
     rw[V9 _ _ (by simp),VR,Wo,List.replicate_succ,List.set_cons_zero,List.replicate_succ',VH];rfl
    rw[←h1];simp [ints,List.map_set]
   have hst:uN h id i 1 [I 5] (some (ints (List.replicate i 5++List.replicate (m+1) 0)))=some (h.set id (ints (List.replicate (i+1) 5++List.replicate m 0))):=by
    rw[u7 hf (by rw[qg];simp) rfl,hset]
   have step:aL (aR AP.A) bp AP.f23L0 (ay [(1,.aF id 0 30 1),(2,I i)] [1,2]) h=some (.normal,[(1,.aF id 0 30 1),(2,I (i+1:Nat))],h.set id (ints (List.replicate (i+1) 5++List.replicate m 0))):=by
    clear hset
    generalize ints (List.replicate (i+1) 5++List.replicate m 0)=L1 at *
    generalize ints (List.replicate i 5++List.replicate (m+1) 0)=L0 at *
    simp only[I]at *
    simp only[AP.f23L0,go_sem,VE c1,ia,hg,hst,w1]
   obtain⟨e',h',s1,s2,s3,s4⟩:=Eb id m (i+1) _ (by omega) (by rw[H.dw,if_pos rfl,hg];rfl) (by simpa using hf)
   exact⟨e',h',tX step s1,s2,s3,by rw[s4];simp⟩
theorem Nb (h:H):aR AP.A 23 [] h=some (xg (List.replicate 30 5),h):=by
 obtain⟨h1,hh1⟩:∃g,g=h.dQ.alloc (ints (List.replicate 30 0)):=⟨_,rfl⟩
 have hg:h1.get h.next=some (ints (List.replicate 0 5++List.replicate 30 0)):=by rw[hh1,H.aW,if_pos (show h.next=h.dQ.next from rfl)];rfl
 obtain⟨e',h',s1,s2,s3,s4⟩:=Eb h.next 30 0 h1 rfl hg (by rw[hh1];simp)
 have s1':Lp AP.A [1,2] AP.f23L0 [(1,.aF h.next 0 30 1),(2,I 0)] h1=some (.exit 0,e',h'):=s1
 clear s1
 have bt:∀e:Env,aY e (.iY 1 8 [.int .i64 0] (.c (.int .i64 30)) (.c (.int .i64 30)))=some (ints (List.replicate 30 0),fun i=>.aF i 0 30 1):=fun _=>rfl
 have hn:h.dQ.next=h.next:=rfl
 refine uL (fn:=AP.f23) (h2:=h') (e:=[(0,.aF h.next 0 30 1)]) (vs:=[.aF h.next 0 30 1]) rfl rfl rfl ?_ rfl ?_
 · simp only[I]at *
   simp only[AP.f23,go_sem,bt,←hh1,hn,sX,s1',s2]
 · exact yj (l:=List.replicate 30 5) (.inr ⟨h.next,rfl,s3,by rw[s4,hh1];simp,by decide⟩) (by rw[s4,hh1];simp) (by decide)
theorem Fx {x:AV} {l:List Int} (hl:l.length<100000) (h:H) (rd:Rd h x (ints l)):∀(q p:List Int),l=p++q→
 (∃e',Lp AP.A [0,3] AP.f67L0 [(0,x),(3,I p.length)] h=some (.exit 0,e',h)∧(ints q).any AK=false)∨(∃e',Lp AP.A [0,3] AP.f67L0 [(0,x),(3,I p.length)] h=some (.ret,e',h)∧look e' 2=.bool false∧(ints q).any AK=true)
 | [], p, hp => by
   have ln:=rd.len
   rw[qg]at ln
   left
   refine⟨[(0,x),(3,I p.length),(15,.bool false)],tW ?_,rfl⟩
   have c1:¬(p.length:Int)<(l.length:Int):=by rw[hp];simp
   simp only[I]at *
   simp only[AP.f67L0,go_sem,ln,VD c1]
 | y :: q, p, hp => by
   have ln:=rd.len
   rw[qg]at ln
   have hlen:l.length=p.length+(q.length+1):=by rw[hp];simp
   have c1:(p.length:Int)<(l.length:Int):=by omega
   have hv:(ints l)[p.length]?=some (I y):=tG (by rw[hp];simp)
   obtain⟨ad,p1,p2⟩:=rd.elem hv
   have p3:=p2 h (fun _ _ q=>q)
   have w1:IntKind.wrap .i64 ((p.length:Int)+1)=(((p++[y]).length:Nat):Int):=by
    rw[vV];exact vZ (n:=p.length+1) (by omega)
   have hany:(ints (y::q)).any AK=(AK (I y)||(ints q).any AK):=rfl
   rw[hany]
   by_cases d1:y<0
   · right
     refine⟨[(2,.bool false)],uz ?_,rfl,by simp [AK,I,d1]⟩
     simp only[I]at *
     simp only[AP.f67L0,go_sem,ln,VE c1,p1,p3,VE d1]
   by_cases d2:15<y
   · right
     refine⟨[(2,.bool false)],uz ?_,rfl,by simp [AK,I,d2]⟩
     simp only[I]at *
     simp only[AP.f67L0,go_sem,ln,VE c1,p1,p3,VD d1,VE d2]
   have hb:AK (I y)=false:=by simp [AK,I];omega
   have step:aL (aR AP.A) bp AP.f67L0 (ay [(0,x),(3,I p.length)] [0,3]) h=some (.normal,[(0,x),(3,I (p++[y]).length)],h):=by
    clear hany hb
    generalize (p++[y]).length=B at *
    simp only[I]at *
    simp only[AP.f67L0,go_sem,ln,VE c1,p1,p3,VD d1,VD d2,w1]
   rw[hb,Bool.false_or]
   rcases Fx hl h rd q (p++[y]) (by rw[hp];simp)with ⟨e',r1,r2⟩|⟨e',r1,r2,r3⟩
   · exact .inl ⟨e',tX step r1,r2⟩
   · exact .inr ⟨e',tX step r1,r2,r3⟩
theorem Qp (h:H) (x:AV) (l:List Int) (hl:l.length<100000) (rd:Rd h x (ints l)):aR AP.A 67 [x] h=some (.bool (Ap l),h):=by
 have rd':=rd.mono (wo h)
 have ln:=rd.len
 rw[qg]at ln
 unfold Ap
 by_cases c1:l.length<1
 · refine uL (fn:=AP.f67) (h2:=h.dQ) (e:=[(2,.bool false)]) rfl rfl rfl ?_ rfl (by rw[VD (show¬1≤l.length by omega)];rfl)
   have c1':(l.length:Int)<1:=by omega
   simp only[I]at *
   simp only[AP.f67,go_sem,ln,VE c1']
 have c1':¬(l.length:Int)<1:=by omega
 by_cases c2:288<l.length
 · refine uL (fn:=AP.f67) (h2:=h.dQ) (e:=[(2,.bool false)]) rfl rfl rfl ?_ rfl (by rw[VD (show¬l.length≤288 by omega),Bool.and_false];rfl)
   have c2':(288:Int)<(l.length:Int):=by omega
   simp only[I]at *
   simp only[AP.f67,go_sem,ln,VD c1',VE c2']
 have c2':¬(288:Int)<(l.length:Int):=by omega
 rw[VE (show 1≤l.length by omega),VE (show l.length≤288 by omega)]
 rcases Fx hl h.dQ rd' l [] rfl with ⟨e',r1,r2⟩|⟨e',r1,r2,r3⟩
 · have r1':Lp AP.A [0,3] AP.f67L0 [(0,x),(3,I 0)] h.dQ=some (.exit 0,e',h.dQ):=r1
   clear r1
   rw[r2]
   refine uL (fn:=AP.f67) (h2:=h.dQ) (e:=[(2,.bool true)]) rfl rfl rfl ?_ rfl rfl
   simp only[I]at *
   simp only[AP.f67,go_sem,ln,VD c1',VD c2',sX,r1']
 · have r1':Lp AP.A [0,3] AP.f67L0 [(0,x),(3,I 0)] h.dQ=some (.ret,e',h.dQ):=r1
   clear r1
   rw[r3]
   refine uL (fn:=AP.f67) (h2:=h.dQ) (e:=e') (vs:=[.bool false]) rfl rfl rfl ?_ (by simp only[AP.f67,cu,nM,r2];rfl) rfl
   simp only[I]at *
   simp only[AP.f67,go_sem,ln,VD c1',VD c2',sX,r1']
theorem BU (p:List Int) (x:Int):∀n:Nat,wC (p++[x]) n=wC p n-(if 1≤x∧x≤n then 2^(n-x.toNat)else 0)
 | 0 => by
   rw[if_neg (by omega)];simp [wC]
 | n + 1 => by
   have e1:wC (p++[x]) (n+1)=wC (p++[x]) n* 2-xM (p++[x]) (n+1):=rfl
   have e2:wC p (n+1)=wC p n* 2-xM p (n+1):=rfl
   rw[e1,e2,BU p x n,A3]
   by_cases h1:x=((n+1:Nat):Int)
   · rw[if_neg (by omega),if_pos ⟨by omega,h1⟩,if_pos (by omega)]
     rw[show n+1-x.toNat=0 by omega];simp;omega
   · rw[if_neg (show¬(n+1≠0∧x=((n+1:Nat):Int))from fun q=>h1 q.2)]
     by_cases h2:1≤x∧x≤(n:Int)
     · rw[if_pos h2,if_pos (by omega),show n+1-x.toNat=(n-x.toNat)+1 by omega,Int.pow_succ];omega
     · rw[if_neg h2,if_neg (by omega)];omega
theorem FN {x : AV} {l : List Int} (hl : l.length < 100000) (hr : z7 l) (h : H) (rd : Rd h x (ints l)) : ∀ (q p : List Int), l = p ++ q →
 ∃e',Lp AP.A [0,3,4] AP.f68L0 [(0,x),(3,I (32768-wC p 15)),(4,I p.length)] h=some (.exit 0,e',h)∧look e' 3=I (32768-wC l 15)
 | [], p, hp => by
   rw[VM]at hp;subst hp
   have ln:=rd.len
   rw[qg]at ln
   refine⟨[(0,x),(3,I (32768-wC l 15)),(4,I l.length),(8,.bool false)],tW ?_,rfl⟩
   have c1:¬(l.length:Int)<(l.length:Int):=by omega
   simp only[I]at *
   simp only[AP.f68L0,go_sem,ln,VD c1]
 | y :: q, p, hp => by
   have ln:=rd.len
   rw[qg]at ln
   have hlen:l.length=p.length+(q.length+1):=by rw[hp];simp
   have c1:(p.length:Int)<(l.length:Int):=by omega
   have hv:(ints l)[p.length]?=some (I y):=tG (by rw[hp];simp)
   have hy:=hr y (by rw[hp];simp)
   obtain⟨ad,p1,p2⟩:=rd.elem hv
   have p3:=p2 h (fun _ _ q=>q)
   have w1:IntKind.wrap .i64 ((p.length:Int)+1)=(((p++[y]).length:Nat):Int):=by
    rw[vV];exact vZ (n:=p.length+1) (by omega)
   have hsn:=BU p y 15
   have hbd:=HE (show p.length<100000 by omega) 15
   have step:aL (aR AP.A) bp AP.f68L0 (ay [(0,x),(3,I (32768-wC p 15)),(4,I p.length)] [0,3,4]) h=some (.normal,[(0,x),(3,I (32768-wC (p++[y]) 15)),(4,I (p++[y]).length)],h):=by
    by_cases d1:0<y
    · obtain⟨yn,hyn⟩:∃n:Nat,y=n:=VF hy.1
      subst hyn
      rw[if_pos (by omega),Wg]at hsn
      have w2:IntKind.wrap .i64 (15-(yn:Int))=((15-yn:Nat):Int):=by rw[show 15-(yn:Int)=((15-yn:Nat):Int)by omega];exact vZ (by omega)
      have hp15:2^(15-yn)≤2^15:=VO (by omega) (by omega)
      have s1:pP .shl .i64 1 ((15-yn:Nat):Int)=some (.int .i64 ((2^(15-yn):Nat):Int)):=by
       have:=yL (a:=1) (s:=15-yn) (by omega) (by omega)
       rw[Nat.one_mul]at this;exact this
      have hpc:((2^(15-yn):Nat):Int)=2^(15-yn):=by simp
      have hpos:(0:Int)≤2^(15-yn):=Int.pow_nonneg (by omega)
      have w3:IntKind.wrap .i64 (32768-wC p 15+((2^(15-yn):Nat):Int))=32768-wC (p++[(yn:Int)]) 15:=by
       rw[show 32768-wC p 15+((2^(15-yn):Nat):Int)=32768-wC (p++[(yn:Int)]) 15 by rw[hsn,hpc];omega]
       refine uw ?_ ?_
       · rw[hsn];rw[←hpc];omega
       · rw[hsn];rw[←hpc];omega
      clear hsn hpc hbd hp15
      generalize (p++[(yn:Int)]).length=B at *
      generalize wC (p++[(yn:Int)]) 15=L2 at *
      generalize wC p 15=L1 at *
      generalize 2^(15-yn)=PW at *
      simp only[I]at *
      simp only[AP.f68L0,go_sem,ln,VE c1,p1,p3,VE d1,w2,s1,w3,w1]
    · rw[if_neg (by omega),Int.sub_zero]at hsn
      rw[hsn]
      clear hsn hbd
      generalize (p++[y]).length=B at *
      simp only[I]at *
      simp only[AP.f68L0,go_sem,ln,VE c1,p1,p3,VD d1,w1]
   obtain⟨e',r1,r2⟩:=FN hl hr h rd q (p++[y]) (by rw[hp];simp)
   exact⟨e',tX step r1,r2⟩
theorem Qx (h:H) (x:AV) (l:List Int) (hl:l.length<100000) (hr:z7 l) (rd:Rd h x (ints l)):aR AP.A 68 [x] h=some (I (32768-wC l 15),h):=by
 obtain⟨e',r1,r2⟩:=FN hl hr h.dQ (rd.mono (wo h)) l [] rfl
 have r1':Lp AP.A [0,3,4] AP.f68L0 [(0,x),(3,I 0),(4,I 0)] h.dQ=some (.exit 0,e',h.dQ):=r1
 clear r1
 refine uL (fn:=AP.f68) (h2:=h.dQ) (e:=[(2,I (32768-wC l 15))]) rfl rfl rfl ?_ rfl rfl
 simp only[I]at *
 simp only[AP.f68,go_sem,sX,r1',r2]
theorem K6 (h : H) (x : AV) (l : List Int) (hl : l.length < 100000) (rd : Rd h x (ints l)) : aR AP.A 52 [x] h = some (I (wH l), h) := by
 have rd':=rd.mono (wo h)
 have k1:=Qp h.dQ x l hl rd'
 unfold wH
 by_cases hm:Ap l=true
 · have k2:=Qx h.dQ x l hl (Aq hm) rd'
   rw[hm]at k1 ⊢
   rw[if_neg (by decide)]
   by_cases c1:wC l 15<0
   · rw[if_pos c1]
     have d1:32768<32768-wC l 15:=by omega
     refine uL (fn:=AP.f52) (h2:=h.dQ) (e:=[(2,I 301)]) rfl rfl rfl ?_ rfl rfl
     simp only[I]at *
     simp only[AP.f52,go_sem,k1,k2,VE d1]
   · rw[if_neg c1]
     have d1:¬32768<32768-wC l 15:=by omega
     by_cases c2:0<wC l 15
     · rw[if_pos c2]
       have d2:32768-wC l 15<32768:=by omega
       refine uL (fn:=AP.f52) (h2:=h.dQ) (e:=[(2,I 302)]) rfl rfl rfl ?_ rfl rfl
       simp only[I]at *
       simp only[AP.f52,go_sem,k1,k2,VD d1,VE d2]
     · rw[if_neg c2]
       have d2:¬32768-wC l 15<32768:=by omega
       refine uL (fn:=AP.f52) (h2:=h.dQ) (e:=[(2,I 0)]) rfl rfl rfl ?_ rfl rfl
       simp only[I]at *
       simp only[AP.f52,go_sem,k1,k2,VD d1,VD d2]
 · have hm':Ap l=false:=by simpa using hm
   rw[hm']at k1 ⊢
   rw[if_pos rfl]
   refine uL (fn:=AP.f52) (h2:=h.dQ) (e:=[(2,I 300)]) rfl rfl rfl ?_ rfl rfl
   simp only[I]at *
   simp only[AP.f52,go_sem,k1]
def CI (l:List Nat) (i j:Nat):List Nat:=(l.set i (l.getD j 0)).set j (l.getD i 0)
theorem zu (l:List Nat) (i j:Nat):(CI l i j).length=l.length:=by simp [CI]
theorem GL {l:List Nat} {i j k:Nat} (hi:i<l.length) (hj:j<l.length):(CI l i j).getD k 0=if k=j then l.getD i 0 else if k=i then l.getD j 0 else l.getD k 0:=by
 unfold CI
 simp only[Vx,VV,VT]
 by_cases a:j=k
 · subst a;simp [hj]
 · by_cases b:i=k
   · subst b;simp [hi,a,Ne.symm a]
   · simp [a,b,Ne.symm a,Ne.symm b]
theorem Au {l:List Nat} {i j:Nat} (hi:i<l.length) (hj:j<l.length):(CI l i j).Perm l:=by
 rw[List.perm_iff_count]
 intro a
 unfold CI
 have e1:l.getD i 0=l[i]:=by rw[Vx,Vz hi];rfl
 have e2:l.getD j 0=l[j]:=by rw[Vx,Vz hj];rfl
 rw[e1,e2,List.count_set (by simpa using hj),List.count_set hi]
 have e3:(l.set i l[j])[j]'(by simpa using hj)=l[j]:=by
  rw[List.getElem_set];split
  · rfl
  · rfl
 rw[e3]
 have c1:l[i]==a→1≤l.count a:=fun h=>List.count_pos_iff.2 (by rw[←eq_of_beq h];exact VP hi)
 by_cases p:(l[i]==a)=true
 · have:=c1 p
   by_cases q:(l[j]==a)=true
   · simp only[p,q,if_true];omega
   · simp only[p,q,if_true];simp;omega
 · by_cases q:(l[j]==a)=true
   · simp only[p,q,if_true];simp
   · simp only[p,q];simp
section
variable (ky:Nat→Int)
def UM (lo n ex:Nat) (l:List Nat):Prop:=(∀c,0<c→c<n→lo≤(c-1)/2→(c-1)/2≠ex→ky (l.getD ((c-1)/2) 0)≤ky (l.getD c 0))∧
 (∀c,0<c→c<n→(c-1)/2=ex→0<ex→lo≤(ex-1)/2→ky (l.getD ((ex-1)/2) 0)≤ky (l.getD c 0))
def Iw (lo n:Nat) (l:List Nat):Prop:=∀c,0<c→c<n→lo≤(c-1)/2→ky (l.getD ((c-1)/2) 0)≤ky (l.getD c 0)
def ER (n i:Nat) (l:List Nat):Nat:=if 2* i+2<n∧ky (l.getD (2* i+2) 0)<ky (l.getD (2* i+1) 0)then 2* i+2 else 2* i+1
def sink (n:Nat):Nat→Nat→List Nat→List Nat
 |0,_,l=>l
 |f+1,i,l=>if n≤2* i+1 then l else if ky (l.getD (ER ky n i l) 0)<ky (l.getD i 0)then sink n f (ER ky n i l) (CI l i (ER ky n i l))else l
def EA:Nat→Nat→List Nat→List Nat
 |0,_,l=>l
 |f+1,j,l=>if j=0 then l else if ky (l.getD j 0)<ky (l.getD ((j-1)/2) 0)then EA f ((j-1)/2) (CI l ((j-1)/2) j)else l
variable {ky}
theorem DG {n i:Nat} {l:List Nat} (h:2* i+1<n):(ER ky n i l=2* i+1∨ER ky n i l=2* i+2)∧ER ky n i l<n:=by
 unfold ER;split
 · rename_i c;exact⟨.inr rfl,c.1⟩
 · exact⟨.inl rfl,h⟩
theorem Km {n i:Nat} {l:List Nat} (h:2* i+1<n) {c:Nat} (h0:0<c) (hc:c<n) (hp:(c-1)/2=i):ky (l.getD (ER ky n i l) 0)≤ky (l.getD c 0):=by
 have:c=2* i+1∨c=2* i+2:=by omega
 unfold ER;split
 · rename_i q
   rcases this with rfl|rfl
   · exact Int.le_of_lt q.2
   · exact Wi _
 · rename_i q
   rcases this with rfl|rfl
   · exact Wi _
   · by_cases z:ky (l.getD (2* i+2) 0)<ky (l.getD (2* i+1) 0)
     · exact absurd ⟨hc,z⟩ q
     · omega
theorem GI {lo n : Nat} : ∀ (f i : Nat) (l : List Nat), n ≤ i + f → lo ≤ i → n ≤ l.length → UM ky lo n i l → Iw ky lo n (sink ky n f i l) ∧ (sink ky n f i l).Perm l ∧ (∀ k, n ≤ k → (sink ky n f i l).getD k 0 = l.getD k 0)
 | 0, i, l, hf, hlo, hl, hx => by
   refine⟨fun c h0 hc hp=>hx.1 c h0 hc hp (by omega),Wh _,fun _ _=>rfl⟩
 | f + 1, i, l, hf, hlo, hl, hx => by
   rw[sink]
   by_cases c0:n≤2* i+1
   · rw[if_pos c0]
     exact⟨fun c h0 hc hp=>hx.1 c h0 hc hp (by omega),Wh _,fun _ _=>rfl⟩
   · rw [if_neg c0]
     obtain⟨kr,kn⟩:=DG (ky:=ky) (n:=n) (i:=i) (l:=l) (by omega)
     have kl:∀c,0<c→c<n→(c-1)/2=i→ky (l.getD (ER ky n i l) 0)≤ky (l.getD c 0):=fun c h0 hc hp=>Km (by omega) h0 hc hp
     generalize ER ky n i l=j at kr kn kl ⊢
     by_cases c1:ky (l.getD j 0)<ky (l.getD i 0)
     · rw [if_pos c1]
       have g:∀k,(CI l i j).getD k 0=if k=j then l.getD i 0 else if k=i then l.getD j 0 else l.getD k 0:=fun k=>GL (by omega) (by omega)
       have ji:i<j:=by omega
       have jp:(j-1)/2=i:=by omega
       obtain ⟨a1, a2, a3⟩ := GI (lo := lo) (n := n) f j (CI l i j) (by omega) (by omega) (by rw [zu]; exact hl) ⟨by
        intro c h0 hc hp hne
        rw[g,g]
        by_cases e1:c=j
        · subst e1
          rw[if_neg (by omega),if_pos jp,if_pos rfl];omega
        · rw [if_neg hne, if_neg e1]
          by_cases e2:(c-1)/2=i
          · rw[if_pos e2,if_neg (by omega)];exact kl c h0 hc e2
          · rw[if_neg e2]
            by_cases e3:c=i
            · subst e3
              rw[if_pos rfl]
              exact hx.2 j (by omega) kn jp h0 hp
            · rw[if_neg e3];exact hx.1 c h0 hc hp e2,by
        intro c h0 hc hp hj0 hlp
        rw[g,g,if_neg (by omega),if_pos jp,if_neg (by omega),if_neg (by omega)]
        have:=hx.1 c h0 hc (by omega) (by omega)
        rwa [hp]at this⟩
       refine⟨a1,a2.trans (Au (by omega) (by omega)),fun k hk=> ?_⟩
       rw[a3 k hk,g,if_neg (by omega),if_neg (by omega)]
     · rw[if_neg c1]
       refine⟨fun c h0 hc hp=> ?_,Wh _,fun _ _=>rfl⟩
       by_cases e:(c-1)/2=i
       · have:=kl c h0 hc e
         rw[e];omega
       · exact hx.1 c h0 hc hp e
theorem CH {n:Nat}:∀(f i:Nat) (l:List Nat),(sink ky n f i l).length=l.length
 |0,_,_=>rfl
 | f + 1, i, l => by
   rw[sink]
   split
   · rfl
   · split
     · rw[CH f,zu]
     · rfl
theorem FQ {n:Nat}:∀{f i:Nat} {l:List Nat},n≤l.length→(sink ky n f i l).Perm l
 |0,_,_,_=>Wh _
 | f + 1, i, l, hl => by
   rw[sink]
   split
   · exact Wh _
   · rename_i c
     obtain⟨kr,kn⟩:=DG (ky:=ky) (n:=n) (i:=i) (l:=l) (by omega)
     split
     · exact(FQ (by rw[zu];exact hl)).trans (Au (by omega) (by omega))
     · exact Wh _
def UL (n j:Nat) (l:List Nat):Prop:=(∀c,0<c→c<n→c≠j→ky (l.getD ((c-1)/2) 0)≤ky (l.getD c 0))∧
 (∀c,0<c→c<n→(c-1)/2=j→0<j→ky (l.getD ((j-1)/2) 0)≤ky (l.getD c 0))
theorem JL {n : Nat} : ∀ (f j : Nat) (l : List Nat), j ≤ f → j < n → n ≤ l.length → UL (ky := ky) n j l → Iw ky 0 n (EA ky f j l) ∧ (EA ky f j l).Perm l
 |0,j,l,hf,hj,hl,hx=>⟨fun c h0 hc _=>hx.1 c h0 hc (by omega),Wh _⟩
 | f + 1, j, l, hf, hj, hl, hx => by
   rw[EA]
   by_cases c0:j=0
   · rw[if_pos c0];exact⟨fun c h0 hc _=>hx.1 c h0 hc (by omega),Wh _⟩
   · rw [if_neg c0]
     by_cases c1:ky (l.getD j 0)<ky (l.getD ((j-1)/2) 0)
     · rw [if_pos c1]
       obtain⟨p,hp⟩:∃p,p=(j-1)/2:=⟨_,rfl⟩
       rw[←hp]at c1 ⊢
       have g:∀k,(CI l p j).getD k 0=if k=j then l.getD p 0 else if k=p then l.getD j 0 else l.getD k 0:=fun k=>GL (by omega) (by omega)
       obtain⟨a1,a2⟩:=JL (n:=n) f p (CI l p j) (by omega) (by omega) (by rw[zu];exact hl) ⟨by
        intro c h0 hc hne
        rw[g,g]
        by_cases e1:c=j
        · subst e1
          rw[if_pos rfl,←hp,if_neg (by omega),if_pos rfl];omega
        · rw[if_neg e1,if_neg hne]
          have h1:=hx.1 c h0 hc e1
          by_cases e2:(c-1)/2=j
          · rw[if_pos e2]
            have:=hx.2 c h0 hc e2 (by omega)
            rwa [←hp]at this
          · rw[if_neg e2]
            by_cases e3:(c-1)/2=p
            · rw[if_pos e3];rw[e3]at h1;omega
            · rw[if_neg e3];exact h1,by
        intro c h0 hc hcp hp0
        rw[g,g,if_neg (by omega),if_neg (by omega)]
        have h1:=hx.1 p (by omega) (by omega) (by omega)
        by_cases e1:c=j
        · rw[if_pos e1];exact h1
        · rw[if_neg e1,if_neg (by omega)]
          have:=hx.1 c h0 hc e1
          rw[hcp]at this;omega⟩
       exact⟨a1,a2.trans (Au (by omega) (by omega))⟩
     · rw[if_neg c1]
       refine⟨fun c h0 hc _=> ?_,Wh _⟩
       by_cases e:c=j
       · subst e;omega
       · exact hx.1 c h0 hc e
theorem H6:∀(f j:Nat) (l:List Nat),(EA ky f j l).length=l.length
 |0,_,_=>rfl
 | f + 1, j, l => by
   rw[EA]
   split
   · rfl
   · split
     · rw[H6 f,zu]
     · rfl
theorem LF {n:Nat} {l:List Nat} (h:Iw ky 0 n l):∀k,k<n→ky (l.getD 0 0)≤ky (l.getD k 0):=by
 intro k
 induction k using Nat.strongRecOn with
 | ind k ih =>
   intro hk
   by_cases c:k=0
   · subst c;exact Wi _
   · have h1:=ih ((k-1)/2) (by omega) (by omega)
     have h2:=h k (by omega) hk (by omega)
     omega
def A7 (n:Nat):Nat→List Nat→List Nat
 |0,l=>l
 |i+1,l=>A7 n i (sink ky n n i l)
theorem HA {n:Nat}:∀(i:Nat) (l:List Nat),n≤l.length→Iw ky i n l→Iw ky 0 n (A7 (ky:=ky) n i l)∧(A7 (ky:=ky) n i l).Perm l
 |0,l,hl,h=>⟨h,Wh _⟩
 | i + 1, l, hl, h => by
   obtain⟨a1,a2,a3⟩:=GI (ky:=ky) (lo:=i) (n:=n) n i l (by omega) (vB _) hl ⟨fun c h0 hc hp hne=>h c h0 hc (by omega),fun c h0 hc hp h1 h2=>by omega⟩
   obtain⟨b1,b2⟩:=HA i (sink ky n n i l) (by rw[CH];exact hl) a1
   exact⟨b1,b2.trans a2⟩
end
end Ab
