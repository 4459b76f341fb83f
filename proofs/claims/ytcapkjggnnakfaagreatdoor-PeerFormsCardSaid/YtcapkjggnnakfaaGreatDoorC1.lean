/- Part C1. -/
import Derived.KernelRfl
import Derived.Test.YtcapkjggnnakfaaGreatDoorAP
set_option linter.unusedSimpArgs false
set_option linter.unusedVariables false
namespace Ab
open Go
theorem Qm:type_of% @List.length_cons:= @List.length_cons
theorem Qn:type_of% @decide_eq_false:= @decide_eq_false
theorem Qo:type_of% @List.length_nil:= @List.length_nil
theorem Qp:type_of% @Option.map_some:= @Option.map_some
theorem Qq:type_of% @decide_eq_true:= @decide_eq_true
theorem Qr:type_of% @List.length_map:= @List.length_map
theorem Qs:type_of% @List.drop_zero:= @List.drop_zero
theorem Qt:type_of% @decide_eq_true_eq:= @decide_eq_true_eq
theorem Qu:type_of% @Bool.false_and:= @Bool.false_and
theorem Qv:type_of% @List.append_nil:= @List.append_nil
theorem Qw:type_of% @List.eq_nil_of_length_eq_zero:= @List.eq_nil_of_length_eq_zero
theorem Qx:type_of% @Bool.and_false:= @Bool.and_false
theorem Qy:type_of% @List.mem_map:= @List.mem_map
theorem Qz:type_of% @List.map_cons:= @List.map_cons
theorem QA:type_of% @Nat.pow_le_pow_right:= @Nat.pow_le_pow_right
theorem QB:type_of% @Bool.true_and:= @Bool.true_and
theorem QC:type_of% @Option.map_none:= @Option.map_none
theorem QD:type_of% @List.getElem?_eq_getElem:= @List.getElem?_eq_getElem
theorem QE:type_of% @List.all_eq_true:= @List.all_eq_true
theorem QF:type_of% @Bool.and_self:= @Bool.and_self
theorem QG:type_of% @List.map_append:= @List.map_append
theorem QH:type_of% @Nat.add_zero:= @Nat.add_zero
theorem QI:type_of% @List.length_replicate:= @List.length_replicate
theorem QJ:type_of% @Int.eq_ofNat_of_zero_le:= @Int.eq_ofNat_of_zero_le
theorem QK:type_of% @List.length_pos_iff:= @List.length_pos_iff
theorem QL:type_of% @List.mem_singleton:= @List.mem_singleton
theorem QM:type_of% @Nat.mul_one:= @Nat.mul_one
theorem QN:type_of% @congrArg:= @congrArg
attribute [local congr] sQ
def zt (l:List Int) (n:Nat):Nat:=if n=0 then 0 else l.countP (fun x=>x==(n:Int))
def syms (l:List Int) (n:Nat):List Int:=if n=0 then []else l.zipIdx.filterMap fun p=>if p.1=(n:Int)then some (p.2:Int)else none
theorem CB (p:List Int) (x:Int) (n:Nat):zt (p++[x]) n=zt p n+if n≠0∧x=(n:Int)then 1 else 0:=by
 unfold zt
 by_cases hn:n=0
 · simp [hn]
 · simp [hn,List.countP_append,List.countP_cons]
theorem Bw (p:List Int) (x:Int) (n:Nat):syms (p++[x]) n=syms p n++if n≠0∧x=(n:Int)then [(p.length:Int)]else []:=by
 unfold syms
 by_cases hn:n=0
 · simp [hn]
 · simp [hn,List.zipIdx_append,List.filterMap_append]
   split<;>simp_all
theorem Df (l:List Int) (n:Nat):(syms l n).length≤l.length:=by
 unfold syms
 split
 · simp
 · refine uL (List.length_filterMap_le _ _) ?_
   simp
theorem zw (l:List Int) (n:Nat):zt l n≤l.length:=by
 unfold zt
 split
 · omega
 · exact List.countP_le_length
structure Bk (h0 h:H) (b:Nat) (C:Nat→AV) (p:List Int):Prop where
 get:h.get b=some (mY 49 C)
 fl:h.floor=h0.next
 fb:h0.next≤b
 nx:h.floor≤h.next
 low:∀id,id<h0.next→h.get id=h0.get id
 IQ:∀n,n<16→C (16+n)=I (zt p n)
 own:∀n,n<16→mW h (C (32+n)) (ints (syms p n))
 nb:∀n,n<16→(C (32+n)).id?≠some b
 Ie:∀n m,n<16→m<16→n≠m→∀i,(C (32+n)).id?=some i→(C (32+m)).id?≠some i
set_option maxHeartbeats 1000000 in
theorem EN (h0 h : H) (b : Nat) (C : Nat → AV) (p : List Int) (n : Nat) (x : AV) (N : Int) (bk : Bk h0 h b C p) (hn1 : 0 < n) (hn : n < 16) (hp : p.length < 100000) (hel : ∃ a, fM 1 x (I p.length) = some a ∧ ∀ g : H, (∀ id c, h0.get id = some c → g.get id = some c) → bS false 1 a g = some (I n)) (hN : (p.length : Int) < N) :
 ∃h' C',aK (aQ AP.A) bA AP.f41L1 [(3,.aC b 0),(10,x),(11,I N),(12,I p.length)] h=some (.normal,[(3,.aC b 0),(10,x),(11,I N),(12,I (p.length+1))],h')∧Bk h0 h' b C' (p++[(n:Int)])∧∀i,(i<16∨i=48)→C' i=C i:=by
 obtain⟨a,ha1,ha2⟩:=hel
 have hlow:∀id c,h0.get id=some c→h.get id=some c:=fun id c q=>by rw[bk.low id (h0.lt id c q)];exact q
 have hld:=ha2 h hlow
 have hx:da (I n) 16=some n:=kf hn
 have g1:(mY 49 C)[16+n]?=some (I (zt p n)):=by rw[fK (by omega),bk.IQ n hn]
 have hcl:=zw p n
 have hw:IntKind.wrap .i64 ((zt p n:Int)+1)=zt p n+1:=tg (by omega) (by omega)
 have hw2:IntKind.wrap .i64 ((p.length:Int)+1)=p.length+1:=tg (by omega) (by omega)
 have hfb:h.floor≤b:=by rw[bk.fl];exact bk.fb
 have hs1:(mY 49 C).set (16+n) (I (zt p n+1))=mY 49 (tF C (16+n) (I (zt p n+1))):=te (by omega) _
 obtain⟨C1,eC1⟩:∃D,D=tF C (16+n) (I (zt p n+1)):=⟨_,rfl⟩
 rw[←eC1]at hs1
 obtain⟨h1,eh1⟩:∃g,g=(h.set b (mY 49 C1)).alloc [I p.length]:=⟨_,rfl⟩
 have hbn:b<h.next:=h.lt _ _ bk.get
 have hb1:h1.get b=some (mY 49 C1):=by
  rw[eh1,H.aV,H.jv,if_neg (by omega),H.dB,if_pos rfl,bk.get];rfl
 have hC1:C1 (32+n)=C (32+n):=by rw[eC1,tF,if_neg (by omega)]
 have hlo1:∀i,i≠b→i≠h.next→h1.get i=h.get i:=fun i q1 q2=>by
  rw[eh1,H.aV,H.jv,if_neg q2,H.dB,if_neg q1]
 have hfl1:h1.floor=h.floor:=by rw[eh1];simp
 have hnx1:h1.next=h.next+1:=by rw[eh1];simp
 have ho1:∀m,m<16→mW h1 (C (32+m)) (ints (syms p m)):=fun m hm=>
  (bk.own m hm).mono hfl1 fun i hi=>hlo1 i (fun e=>bk.nb m hm (e ▸ hi)) (by have:=(bk.own m hm).lt hi;omega)
 have hsl:=Df p n
 have hnxf:=bk.nx
 obtain⟨v',h2,q1,q2,q3,q4,q5,q6⟩:=(ho1 n hn).app (by omega) (z:=8) (I p.length) rfl (by simp [roomy];omega)
 have g2:(mY 49 C1)[32+n]?=some (C (32+n)):=by rw[fK (by omega),hC1]
 have hb2:h2.get b=some (mY 49 C1):=by rw[q5 b (bk.nb n hn) (by omega)];exact hb1
 have hs2:(mY 49 C1).set (32+n) v'=mY 49 (tF C1 (32+n) v'):=te (by omega) _
 have hfl2:h2.floor≤b:=by have:=bk.fb;have:=bk.fl;omega
 have hv':v'.cells=[v']∧v'.sc=true:=by
  rcases q2 with ⟨rfl,_⟩|⟨id,rfl,_⟩<;>exact⟨rfl,rfl⟩
 have b1:16+n≤48:=by omega
 have b2:32+n≤48:=by omega
 have hal:(h.set b (mY 49 C1)).get b=some (mY 49 C1):=by rw[H.dB,if_pos rfl,bk.get];rfl
 have hal2:h1.get h.next=some [I p.length]:=by rw[eh1,H.aV,H.jv,if_pos rfl]
 refine⟨h2.set b (mY 49 (tF C1 (32+n) v')),tF C1 (32+n) v', ?_, ?_,fun i hi=>by rw[tF,if_neg (by omega),eC1,tF,if_neg (by omega)]⟩
 · simp only[I]at *
   simp [AP.f41L1,aK,au,aM,ai,ah,bw,aX,ha1,hld,hN,hn1,hx,bk.get,g1,hw,hw2,hfb,hs1,dM,dV,kz,aR,H.aV,bW.aN,b1,b2,hal,g2,←eh1,hal2,q1,hb2,hs2,hfl2,hv'.1,hv'.2]
 · refine⟨by rw[H.dB,if_pos rfl,hb2];rfl,by simp;rw[q3,hfl1,bk.fl],bk.fb,by simp;omega,fun id hid=> ?_,fun m hm=> ?_,fun m hm=> ?_,fun m hm=> ?_,fun m k hm hk hne i hi=> ?_⟩
   · have hfb':=bk.fb
     have hfl':=bk.fl
     rw[H.dB,if_neg (by omega),q5 id ?_ (by omega),hlo1 id (by omega) (by omega),bk.low id hid]
     intro hi
     rcases bk.own n hn with ⟨e,_⟩|⟨k,e,_,q⟩
     · rw[e]at hi;cases hi
     · rw[e]at hi;cases hi;have:=q.1;omega
   · rw[tF,if_neg (by omega),eC1,tF,CB]
     by_cases e:m=n
     · subst e;rw[if_pos rfl,if_pos ⟨by omega,rfl⟩];simp
     · rw[if_neg (by omega),bk.IQ m hm,if_neg (by omega)];simp
   · have hm32:tF C1 (32+n) v' (32+m)=if m=n then v' else C (32+m):=by
      simp only[tF]
      by_cases e:m=n
      · rw[if_pos (by omega),if_pos e]
      · rw[if_neg (by omega),if_neg e,eC1,tF,if_neg (by omega)]
     rw[hm32,Bw]
     by_cases e:m=n
     · subst e
       rw[if_pos rfl,if_pos ⟨by omega,rfl⟩,o8]
       refine q2.mono (by simp) fun i hi=> ?_
       rw[H.dB,if_neg]
       intro e2;subst e2;rw[q6]at hi;cases hi;omega
     · rw[if_neg e,if_neg (by omega),Qv]
       refine(ho1 m hm).mono (by simp;omega) fun i hi=> ?_
       have hlt:=(bk.own m hm).lt hi
       rw[H.dB,if_neg (fun (e2:i=b)=>bk.nb m hm (e2 ▸ hi)),q5 i (bk.Ie m n hm hn e i hi) (by omega)]
   · have hm32:tF C1 (32+n) v' (32+m)=if m=n then v' else C (32+m):=by
      simp only[tF]
      by_cases e:m=n
      · rw[if_pos (by omega),if_pos e]
      · rw[if_neg (by omega),if_neg e,eC1,tF,if_neg (by omega)]
     rw[hm32]
     by_cases e:m=n
     · rw[if_pos e,q6];intro e2;cases e2;omega
     · rw[if_neg e];exact bk.nb m hm
   · have hm32:∀m,tF C1 (32+n) v' (32+m)=if m=n then v' else C (32+m):=fun m=>by
      simp only[tF]
      by_cases e:m=n
      · rw[if_pos (by omega),if_pos e]
      · rw[if_neg (by omega),if_neg e,eC1,tF,if_neg (by omega)]
     rw[hm32]at hi ⊢
     by_cases e:m=n
     · rw[if_pos e,q6]at hi
       cases hi
       rw[if_neg (by omega)]
       intro e2;have:=(bk.own k hk).lt e2;omega
     · rw[if_neg e]at hi
       by_cases e3:k=n
       · rw[if_pos e3,q6];intro e2;cases e2;have:=(bk.own m hm).lt hi;omega
       · rw[if_neg e3];exact bk.Ie m k hm hk hne i hi
set_option maxHeartbeats 1000000 in
theorem EO (h0 h:H) (b:Nat) (C:Nat→AV) (p:List Int) (x:AV) (N:Int) (bk:Bk h0 h b C p) (hp:p.length<100000) (hel:∃a,fM 1 x (I p.length)=some a∧∀g:H,(∀id c,h0.get id=some c→g.get id=some c)→bS false 1 a g=some (I 0)) (hN:(p.length:Int)<N):
 aK (aQ AP.A) bA AP.f41L1 [(3,.aC b 0),(10,x),(11,I N),(12,I p.length)] h=some (.normal,[(3,.aC b 0),(10,x),(11,I N),(12,I (p.length+1))],h)∧Bk h0 h b C (p++[0]):=by
 obtain⟨a,ha1,ha2⟩:=hel
 have hlow:∀id c,h0.get id=some c→h.get id=some c:=fun id c q=>by rw[bk.low id (h0.lt id c q)];exact q
 have hld:=ha2 h hlow
 have hw2:IntKind.wrap .i64 ((p.length:Int)+1)=p.length+1:=tg (by omega) (by omega)
 refine⟨?_,⟨bk.get,bk.fl,bk.fb,bk.nx,bk.low,fun n hn=> ?_,fun n hn=> ?_,bk.nb,bk.Ie⟩⟩
 · simp only[I]at *
   simp [AP.f41L1,aK,au,aM,ai,ah,ha1,hld,hN,hw2]
 · rw[bk.IQ n hn,CB,if_neg (by omega)];simp
 · have:=bk.own n hn
   rw[Bw,if_neg (by omega),Qv];exact this
theorem Bl (h0 : H) (b : Nat) (x : AV) (l : List Int) (hl : l.length < 100000) (hr : ∀ y ∈ l, 0 ≤ y ∧ y < 16) (hx : Rd h0 x (ints l)) : ∀ (m : Nat) (p q : List Int) (C : Nat → AV) (h : H), l = p ++ q → q.length = m → Bk h0 h b C p →
 ∃h' C' e',Lp AP.A [3,10,11,12] AP.f41L1 [(3,.aC b 0),(10,x),(11,I l.length),(12,I p.length)] h=some (.exit 0,e',h')∧look e' 3=.aC b 0∧Bk h0 h' b C' l∧∀i,(i<16∨i=48)→C' i=C i
 | 0, p, [], C, h, hpq, _, bk => by
   refine⟨h,C, ?_⟩
   have:l=p:=by simpa using hpq
   subst this
   refine⟨_,sN (e':=[(3,.aC b 0),(10,x),(11,I l.length),(12,I l.length),(13,.bool false)]) ?_,rfl,bk,fun _ _=>rfl⟩
   simp [AP.f41L1,aK,au,ai,ah,I]
 | m + 1, p, y :: q, C, h, hpq, hm, bk => by
   have hmem:y∈l:=by rw[hpq];simp
   obtain⟨h1,h2⟩:=hr y hmem
   have hget:l[p.length]?=some y:=by rw[hpq];simp
   have hel:=hx.elem (sj hget)
   have hlen:p.length<l.length:=(uk.1 hget).1
   obtain⟨n,rfl⟩:=QJ h1
   have next:∃h' C',aK (aQ AP.A) bA AP.f41L1 [(3,.aC b 0),(10,x),(11,I l.length),(12,I p.length)] h=some (.normal,[(3,.aC b 0),(10,x),(11,I l.length),(12,I (p.length+1))],h')∧Bk h0 h' b C' (p++[(n:Int)])∧∀i,(i<16∨i=48)→C' i=C i:=by
    by_cases hn:n=0
    · subst hn
      have z:=EO h0 h b C p x l.length bk (by omega) hel (by omega)
      exact⟨h,C,z.1,z.2,fun _ _=>rfl⟩
    · exact EN h0 h b C p n x l.length bk (by omega) (by omega) (by omega) hel (by omega)
   obtain⟨h',C',s1,bk',hC'⟩:=next
   have ih:=Bl h0 b x l hl hr hx m (p++[(n:Int)]) q C' h' (by rw[hpq];simp) (by simpa using hm) bk'
   obtain⟨h2,C2,e2,k1,k2,k3,k4⟩:=ih
   exact⟨h2,C2,e2,sP s1 (by simpa using k1),k2,k3,fun i hi=>by rw[k4 i hi,hC' i hi]⟩
def vu (l:List Int):Nat→Int
 |0=>0
 |n+1=>(vu l n+zt l n)* 2
def vS (l:List Int):Nat→Int
 |0=>1
 |n+1=>vS l n* 2-zt l (n+1)
theorem Bd {l:List Int} (hl:l.length<100000) (n:Nat):0≤vu l n∧vu l n≤200000* 2^n-200000:=by
 induction n with
 |zero=>simp [vu]
 |succ n ih=>have:=zw l n;simp only[vu,Int.pow_succ];omega
theorem FR {l:List Int} (hl:l.length<100000) (n:Nat): -(200000* 2^n-100000)≤vS l n∧vS l n≤2^n:=by
 induction n with
 |zero=>simp [vS]
 |succ n ih=>have:=zw l (n+1);simp only[vS,Int.pow_succ];omega
theorem Bn {m:Nat} (hm:m≤15):(2:Int)^m≤32768:=by
 have h:(2:Nat)^m≤2^15:=QA (by omega) hm
 have h2:((2^m:Nat):Int)≤((2^15:Nat):Int):=Int.ofNat_le.2 h
 simpa using h2
theorem Bk.put {h0 h:H} {b:Nat} {C:Nat→AV} {p:List Int} (bk:Bk h0 h b C p) {i:Nat} (hi:i<16∨i=48) (v:AV):Bk h0 (h.set b (mY 49 (tF C i v))) b (tF C i v) p:=by
 have c:∀j,16≤j→j<48→tF C i v j=C j:=fun j h1 h2=>by rw[tF,if_neg (by omega)]
 have hbn:b<h.next:=h.lt _ _ bk.get
 refine⟨by rw[H.dB,if_pos rfl,bk.get];rfl,by simp [bk.fl],bk.fb,by simp [bk.nx],fun id hid=> ?_,fun n hn=> ?_,fun n hn=> ?_,fun n hn=> ?_,fun n m hn hm hne k hk=> ?_⟩
 · have:=bk.fb
   rw[H.dB,if_neg (by omega)];exact bk.low id hid
 · rw[c _ (by omega) (by omega)];exact bk.IQ n hn
 · rw[c _ (by omega) (by omega)]
   refine(bk.own n hn).mono (by simp) fun k hk=> ?_
   rw[H.dB,if_neg];intro (e:k=b);exact bk.nb n hn (e ▸ hk)
 · rw[c _ (by omega) (by omega)];exact bk.nb n hn
 · rw[c _ (by omega) (by omega)]at hk ⊢;exact bk.Ie n m hn hm hne k hk
set_option maxHeartbeats 1000000 in
theorem DB (h0 h:H) (b:Nat) (C:Nat→AV) (l:List Int) (m:Nat) (bk:Bk h0 h b C l) (hl:l.length<100000) (hm:m<15) (hc:C 48=I (vS l m)):
 aK (aQ AP.A) bA AP.f41L0 [(3,.aC b 0),(6,I (vu l m)),(7,I (m+1))] h=
  some (.normal,[(3,.aC b 0),(6,I (vu l (m+1))),(7,I (m+1+1))],(h.set b (mY 49 (tF C (m+1) (I (vu l (m+1)))))).set b (mY 49 (tF (tF C (m+1) (I (vu l (m+1)))) 48 (I (vS l (m+1)))))):=by
 have hp:=Bn (m:=m) (by omega)
 have hf:=Bd hl m
 have hlf:=FR hl m
 have c1:=zw l m
 have c2:=zw l (m+1)
 have w1:IntKind.wrap .i64 (m:Int)=m:=tg (by omega) (by omega)
 have w2:IntKind.wrap .i64 (vu l m+zt l m)=vu l m+zt l m:=tg (by omega) (by omega)
 have w3:IntKind.wrap .i64 ((vu l m+zt l m)* 2)=vu l (m+1):=tg (by omega) (by omega)
 have w4:IntKind.wrap .i64 (vS l m* 2)=vS l m* 2:=tg (by omega) (by omega)
 have w5:IntKind.wrap .i64 (vS l m* 2-zt l (m+1))=vS l (m+1):=tg (by omega) (by omega)
 have w6:IntKind.wrap .i64 ((m:Int)+1+1)=m+1+1:=tg (by omega) (by omega)
 have x1:da (I m) 16=some m:=kf (by omega)
 have x2:da (I (m+1)) 16=some (m+1):=kf (i:=m+1) (by omega)
 have g1:(mY 49 C)[16+m]?=some (I (zt l m)):=by rw[fK (by omega),bk.IQ m (by omega)]
 obtain⟨C1,e1⟩:∃D,D=tF C (m+1) (I (vu l (m+1))):=⟨_,rfl⟩
 have s1:(mY 49 C).set (m+1) (I (vu l (m+1)))=mY 49 C1:=by rw[e1];exact te (by omega) _
 have g2:(mY 49 C1)[16+(m+1)]?=some (I (zt l (m+1))):=by rw[fK (by omega),e1,tF,if_neg (by omega),bk.IQ (m+1) (by omega)]
 have g3:(mY 49 C1)[48]?=some (I (vS l m)):=by rw[fK (by omega),e1,tF,if_neg (by omega),hc]
 have g4:C1 48=I (vS l m):=by rw[e1,tF,if_neg (by omega),hc]
 have s2:(mY 49 C1).set 48 (I (vS l (m+1)))=mY 49 (tF C1 48 (I (vS l (m+1)))):=te (by omega) _
 have hfb:h.floor≤b:=by rw[bk.fl];exact bk.fb
 have ge:(h.set b (mY 49 C1)).get b=some (mY 49 C1):=by rw[H.dB,if_pos rfl,bk.get];rfl
 have b1:m+1≤48:=by omega
 have b3:m≤47:=by omega
 have b4:m≤14:=by omega
 have b2:(m:Int)+1≤15:=by omega
 rw[←e1]
 simp only[I]at *
 simp [AP.f41L0,aK,au,aM,ai,ah,bk.get,w1,w2,w3,w4,w5,w6,x1,x2,g1,g2,g3,g4,s1,s2,hfb,ge,b1,b2,b3,b4]
theorem At (h0:H) (b:Nat) (l:List Int) (hl:l.length<100000):∀(k m:Nat) (C:Nat→AV) (h:H),m+k=15→Bk h0 h b C l→C 48=I (vS l m)→(∀i,i≤m→C i=I (vu l i))→
 ∃h' C' e',Lp AP.A [3,6,7] AP.f41L0 [(3,.aC b 0),(6,I (vu l m)),(7,I (m+1))] h=some (.exit 2,e',h')∧look e' 3=.aC b 0∧Bk h0 h' b C' l∧C' 48=I (vS l 15)∧∀i,i≤15→C' i=I (vu l i)
 | 0, m, C, h, hk, bk, hc, hf => by
   obtain rfl:m=15:=by omega
   refine⟨h,C,[(3,.aC b 0),(6,I (vu l 15)),(7,I 16),(45,.bool false)],sN ?_,rfl,bk,hc,hf⟩
   have e:((15:Nat):Int)+1=16:=rfl
   rw[e]
   simp [AP.f41L0,aK,au,ai,ah,I]
 | k + 1, m, C, h, hk, bk, hc, hf => by
   have st:=DB h0 h b C l m bk hl (by omega) hc
   have bk1:=(bk.put (i:=m+1) (.inl (by omega)) (I (vu l (m+1)))).put (i:=48) (.inr rfl) (I (vS l (m+1)))
   obtain⟨h',C',e',k1,k2⟩:=At h0 b l hl k (m+1) _ _ (by omega) bk1 (by simp [tF]) (fun i hi=>by
    rw[tF,if_neg (by omega),tF]
    by_cases e:i=m+1
    · rw[if_pos e,e]
    · rw[if_neg e];exact hf i (by omega))
   exact⟨h',C',e',sP st (by simpa using k1),k2⟩
def DE (l:List AV):AV:=if l=[]then .aO else .aU false l 0 l.length 1
def wE (l:List Int):Nat→AV:=fun i=>if i<16 then I (vu l i)else if i<32 then I (zt l (i-16))else if i<48 then DE (ints (syms l (i-32)))else I (vS l 15)
def vg (l:List Int):AV:=.aJ (mY 49 (wE l)) 0
theorem HJ {f:AV→Option AV} {C D:Nat→AV}:∀(n:Nat),(∀i,i<n→f (C i)=some (D i))→fB f (mY n C)=some (mY n D):=by
 have key:∀(l:List Nat),(∀i∈l,f (C i)=some (D i))→fB f (l.map C)=some (l.map D):=by
  intro l
  induction l with
  |nil=>intro _;rfl
  |cons i l ih=>intro h;simp [fB,h i (by simp),ih (fun j hj=>h j (by simp [hj]))]
 exact fun n h=>key _ fun i hi=>h i (List.mem_range.1 hi)
theorem wS (g:Nat→Option (List AV)) (fl n:Nat) (t:Bool):∀l:List Int,fB (snap g fl (n+1) t) (ints l)=some (ints l)
 |[]=>rfl
 | x :: l => by
   have:=wS g fl n t l
   simp only[ints,Qz,fB]at this ⊢
   rw[this];rfl
theorem GC {h:H} {v:AV} {cs:List AV} {fl n:Nat} (o:mW h v cs) (hf:fl≤h.floor) (hm:fB (snap h.get fl (n+1) false) cs=some cs):snap h.get fl (n+2) false v=some (DE cs):=by
 rcases o with ⟨rfl,rfl⟩|⟨id,rfl,hg,hfl,hne⟩
 · rfl
 · have h1:¬id<fl:=by omega
   simp only[snap,if_neg h1,hg,um,uy,QM,Qs,List.take_length,ur,if_true,hm,DE,if_neg hne]
def C0:Nat→AV:=fun i=>if i<32 then I 0 else if i<48 then .aO else I 1
set_option maxHeartbeats 1000000 in
theorem yV (h : H) (x : AV) (l : List Int) (hl : l.length < 100000) (hr : ∀ y ∈ l, 0 ≤ y ∧ y < 16) (hx : Rd h x (ints l)) : aQ AP.A 41 [x] h = some (vg l, h) := by
 have hb0:Bk h (h.dU.alloc (mY 49 C0)) h.next C0 []:=by
  refine⟨by simp [H.aV],by simp,ur _,by simp,fun id hid=> ?_,fun n hn=> ?_,fun n hn=> ?_,fun n hn=> ?_,fun n m hn hm hne i hi=> ?_⟩
  · rw[H.aV,if_neg (by simp;omega)];rfl
  · simp only[C0,zt,List.countP_nil];rw[if_pos (by omega)];simp
  · simp only[C0];rw[if_neg (by omega),if_pos (by omega)]
    exact .inl ⟨rfl,by unfold syms;split<;>rfl⟩
  · simp only[C0];rw[if_neg (by omega),if_pos (by omega)];exact nofun
  · simp only[C0]at hi;rw[if_neg (by omega),if_pos (by omega)]at hi;cases hi
 obtain⟨h1,D1,e1,k1,k2,bk1,k3⟩:=Bl h h.next x l hl hr hx l.length [] l C0 _ rfl rfl hb0
 obtain⟨h2,D2,e2,k4,k5,bk2,k6,k7⟩:=At h h.next l hl 15 0 D1 h1 rfl bk1 (by rw[k3 48 (.inr rfl)];rfl) (fun i hi=>by
  obtain rfl:i=0:=by omega
  rw[k3 0 (.inl (by omega))];rfl)
 have kx:aK (aQ AP.A) bA AP.f41.body (params 0 [x]) h.dU=some (.ret,[(2,.aC h.next 0)],h2):=by
  unfold AP.f41
  refine tS (e1:=[(0,x)]) (h1:=h.dU) rfl ?_
  refine tS (e1:=[(0,x),(3,.aC h.next 0)]) (h1:=h.dU.alloc (mY 49 C0)) rfl ?_
  refine tS (e1:=[(3,.aC h.next 0)]) (h1:=h1) ?_ ?_
  · refine tS (e1:=[(3,.aC h.next 0),(10,x),(11,I l.length),(12,I 0)]) (h1:=h.dU.alloc (mY 49 C0)) ?_ ?_
    · simp [aK,au,ai,ah,hx.len,I]
    · have:=pG (k:=[3]) k1
      simp only[qI,rh,k2]at this
      exact this
  refine tS (e1:=[(3,.aC h.next 0),(6,I 0)]) (h1:=h1) rfl ?_
  refine tS (e1:=[(3,.aC h.next 0)]) (h1:=h2) ?_ ?_
  · refine tS (e1:=[(3,.aC h.next 0),(6,I 0),(7,I 1)]) (h1:=h1) rfl ?_
    have:=pG (k:=[3]) k4
    simp only[qI,rh,k5]at this
    exact this
  exact tS (e1:=[(2,.aC h.next 0)]) (h1:=h2) rfl rfl
 have hsn:snap h2.get h.next 16 true (.aC h.next 0)=some (vg l):=by
  have hm:fB (snap h2.get h.next 15 false) (mY 49 D2)=some (mY 49 (wE l)):=by
   refine HJ 49 fun i hi=> ?_
   by_cases c1:i<16
   · rw[k7 i (by omega),wE,if_pos c1];rfl
   by_cases c2:i<32
   · have:=bk2.IQ (i-16) (by omega)
     rw[show 16+(i-16)=i by omega]at this
     rw[this,wE,if_neg c1,if_pos c2];rfl
   by_cases c3:i<48
   · have:=bk2.own (i-32) (by omega)
     rw[show 32+(i-32)=i by omega]at this
     rw[wE,if_neg c1,if_neg c2,if_pos c3]
     exact GC (n:=13) this (by rw[bk2.fl];exact ur _) (wS _ _ _ _ _)
   · obtain rfl:i=48:=by omega
     rw[k6,wE,if_neg c1,if_neg c2,if_neg c3];rfl
  simp only[snap,if_neg (Nat.lt_irrefl _),bk2.get,um,hm,vg]
 exact tB (fn:=AP.f41) rfl rfl rfl kx rfl hsn
theorem wA (w n:Nat) (h:n<2^w):(BitVec.ofInt w (n:Int)).toNat=n:=by
 rw[BitVec.ofInt_natCast,BitVec.toNat_ofNat,Nat.mod_eq_of_lt h]
theorem uS {n:Nat} (h:n<9223372036854775808):IntKind.wrap .i64 (n:Int)=n:=tg (by omega) (by omega)
theorem wrap_u8 {n:Nat} (h:n<256):IntKind.wrap .u8 (n:Int)=n:=by
 have e:IntKind.wrap .u8 (n:Int)=(n:Int)%256:=by simp [IntKind.wrap,IntKind.bits,IntKind.signed]
 rw[e];omega
theorem GU (n:Int):IntKind.wrap .u8 n=n%256:=by simp [IntKind.wrap,IntKind.bits,IntKind.signed]
theorem Hd {a b:Nat} (ha:a<9223372036854775808) (hb:b<9223372036854775808):bits .or .i64 (a:Int) (b:Int)=((a|||b:Nat):Int):=by
 have h1:a<2^63:=by simpa using ha
 have h2:b<2^63:=by simpa using hb
 have h3:a|||b<2^63:=Nat.or_lt_two_pow h1 h2
 show IntKind.wrap .i64 (((BitVec.ofInt 64 (a:Int)|||BitVec.ofInt 64 (b:Int)).toNat:Nat):Int)=_
 rw[BitVec.toNat_or,wA 64 a (by omega),wA 64 b (by omega)]
 exact uS (by simpa using h3)
theorem Eu {a b:Nat} (ha:a<256) (hb:b<256):bits .and .u8 (a:Int) (b:Int)=((a&&&b:Nat):Int):=by
 have h3:a&&&b<2^8:=Nat.and_lt_two_pow _ (by simpa using hb)
 show IntKind.wrap .u8 (((BitVec.ofInt 8 (a:Int)&&&BitVec.ofInt 8 (b:Int)).toNat:Nat):Int)=_
 rw[BitVec.toNat_and,wA 8 a (by omega),wA 8 b (by omega)]
 exact wrap_u8 (by simpa using h3)
theorem Mp {x b i:Nat} (hx:x<2^i):x|||b* 2^i=x+b* 2^i:=by
 have:=Nat.two_pow_add_eq_or_of_lt hx b
 rw[Nat.or_comm,Nat.mul_comm b,←this,Nat.add_comm]
@[simp] theorem E6 {k j : IntKind} {a b : Int} : bp .shr (.int k a) (.int j b) = oQ .shr k a b := rfl
@[simp] theorem E5 {k j : IntKind} {a b : Int} : bp .shl (.int k a) (.int j b) = oQ .shl k a b := rfl
attribute [go_sem] E5 E6
theorem Mx {a s:Nat} (hs:s≤8):oQ .shr .u8 (a:Int) (s:Int)=some (.int .u8 ((a/2^s:Nat):Int)):=by
 unfold oQ
 rw[if_neg (by omega)]
 simp only[IntKind.bits,Int.toNat_natCast,Nat.min_eq_left hs]
 congr 2
 rw[Int.fdiv_eq_ediv_of_nonneg _ (Int.pow_nonneg (by omega))]
 simp
theorem B9 {a s:Nat} (hs:s≤64) (h:a* 2^s<9223372036854775808):oQ .shl .i64 (a:Int) (s:Int)=some (.int .i64 ((a* 2^s:Nat):Int)):=by
 unfold oQ
 rw[if_neg (by omega)]
 simp only[IntKind.bits,Int.toNat_natCast,Nat.min_eq_left hs]
 congr 2
 rw[←uS h];simp
def wH (s:ByteArray) (p:Nat):Nat:=((s[p/8]?).map (·.toNat)).getD 0/2^(p%8)%2
theorem Cu (s:ByteArray) (p:Nat):wH s p≤1:=by unfold wH;omega
def u0 (s:ByteArray) (p:Nat):Nat→Nat
 |0=>0
 |n+1=>u0 s p n+wH s (p+n)* 2^n
theorem vX (s:ByteArray) (p:Nat):∀n,u0 s p n<2^n
 |0=>by simp [u0]
 | n + 1 => by
   have h:=vX s p n
   have b:=Cu s (p+n)
   have hb:wH s (p+n)=0∨wH s (p+n)=1:=by omega
   rw[u0,Nat.pow_succ]
   rcases hb with hb|hb<;>rw[hb]<;>omega
theorem GN (l:List Int) (n:Nat):(syms l n).length=zt l n:=by
 have key:∀(l:List Int) (k:Nat),((l.zipIdx k).filterMap fun p=>if p.1=(n:Int)then some (p.2:Int)else none).length=l.countP (fun x=>x==(n:Int)):=by
  intro l
  induction l with
  |nil=>intro k;rfl
  | cons x l ih =>
    intro k
    rw[List.zipIdx_cons,List.filterMap_cons,List.countP_cons]
    by_cases h:x=(n:Int)
    · simp only[if_pos h,Qm,ih (k+1)];simp [h]
    · simp only[if_neg h,ih (k+1)];simp [h]
 unfold syms zt
 split
 · rfl
 · exact key l 0
def xI (l:List Int) (n:Nat) (v:Int):Option Int:=if vu l n≤v then(syms l n)[(v-vu l n).toNat]? else none
set_option maxHeartbeats 1000000 in
theorem Ku (h:H) (l:List Int) (hl:l.length<100000) (n:Nat) (hn1:1≤n) (hn:n≤15) (v:Int) (hv0:0≤v) (hv:v<1000000):
 aQ AP.A 72 [vg l,I n,I v] h=some (match xI l n v with|some y=>.bO [I y,.bool true]|none=>.bO [I 0,.bool false],h):=by
 have hp:=Bn hn
 have hf:=Bd hl n
 have hc:=zw l n
 have hsc:=GN l n
 have c1:¬((n:Int)<1):=by omega
 have c2:¬(15:Int)<n:=by omega
 have a1:da (I n) 16=some n:=kf (by omega)
 have e1:wE l n=I (vu l n):=by rw[wE,if_pos (by omega)]
 have e2:wE l (16+n)=I (zt l n):=by rw[wE,if_neg (by omega),if_pos (by omega),show 16+n-16=n by omega]
 have e3:wE l (32+n)=DE (ints (syms l n)):=by rw[wE,if_neg (by omega),if_neg (by omega),if_pos (by omega),show 32+n-32=n by omega]
 have g1:(mY 49 (wE l))[n]?=some (I (vu l n)):=by rw[fK (by omega),e1]
 have g2:(mY 49 (wE l))[16+n]?=some (I (zt l n)):=by rw[fK (by omega),e2]
 have g3:(mY 49 (wE l))[32+n]?=some (DE (ints (syms l n))):=by rw[fK (by omega),e3]
 have hb:vg l=.aJ (mY 49 (wE l)) 0:=rfl
 rw[hb]
 clear hb e1 e2 e3
 generalize mY 49 (wE l)=T at g1 g2 g3 ⊢
 by_cases k1:v<vu l n
 · have:xI l n v=none:=by rw[xI,if_neg (by omega)]
   rw[this]
   refine ta (fn:=AP.f72) (e:=[(6,I 0),(7,.bool false)]) rfl rfl rfl ?_ rfl
   simp only[I]at *
   simp only[AP.f72,go_sem,Qn c1,Qn c2,a1,g1,Qq k1]
 have w1:IntKind.wrap .i64 (v-vu l n)=v-vu l n:=tg (by omega) (by omega)
 by_cases k2:(zt l n:Int)≤v-vu l n
 · have:xI l n v=none:=by rw[xI,if_pos (by omega),List.getElem?_eq_none (by omega)]
   rw[this]
   refine ta (fn:=AP.f72) (e:=[(6,I 0),(7,.bool false)]) rfl rfl rfl ?_ rfl
   simp only[I]at *
   simp only[AP.f72,go_sem,Qn c1,Qn c2,a1,g1,g2,Qn k1,w1,Qq k2]
 · obtain⟨i,hi⟩:∃i:Nat,v-vu l n=i:=QJ (by omega)
   have hil:i<(syms l n).length:=by omega
   obtain⟨y,hy⟩:∃y,(syms l n)[i]?=some y:=⟨_,QD hil⟩
   have:xI l n v=some y:=by rw[xI,if_pos (by omega),hi,Int.toNat_natCast,hy]
   rw[this]
   have hne:ints (syms l n)≠[]:=by intro e;have:=QN List.length e;simp at this;simp [this]at hil
   have hs:DE (ints (syms l n))=.aU false (ints (syms l n)) 0 (ints (syms l n)).length 1:=by rw[DE,if_neg hne]
   rw[hs]at g3
   have a2:fM 1 (.aU false (ints (syms l n)) 0 (ints (syms l n)).length 1) (I i)=some (.aJ (ints (syms l n)) i):=by
    simp [fM,kf (show i<(syms l n).length from hil)]
   have g4:=sj hy
   rw[hi]at w1 k2
   refine ta (fn:=AP.f72) (e:=[(6,I y),(7,.bool true)]) rfl rfl rfl ?_ rfl
   simp only[I]at *
   simp only[AP.f72,go_sem,Qn c1,Qn c2,a1,g1,g2,Qn k1,hi,w1,Qn k2,g3,a2,g4]
attribute [local congr] sQ
theorem ym (a b:Nat):Int.tdiv (a:Int) (b:Int)=((a/b:Nat):Int):=by simp
theorem AR (a b:Nat):Int.tmod (a:Int) (b:Int)=((a%b:Nat):Int):=by rw[Int.tmod_eq_emod_of_nonneg (by omega)];simp
theorem Hl {s:ByteArray} {i:Nat} (h:i<s.size):∃b:UInt8,s[i]?=some b:=⟨s[i],by simp [h]⟩
set_option maxHeartbeats 1000000 in
theorem FK (h:H) (r:Nat) (s:ByteArray) (p x i n:Nat) (hg:h.get r=some [.str s,I p]) (hf:h.floor≤r) (hp:p<8* s.size) (hs:s.size<1125899906842624) (hx:x<2^i) (hi:i<n) (hn:n≤16):
 aK (aQ AP.A) bA AP.f58L0 [(0,.aC r 0),(6,I x),(32,I n),(33,I i)] h=some (.normal,[(0,.aC r 0),(6,I (x+wH s p* 2^i:Nat)),(32,I n),(33,I (i+1:Nat))],h.set r [.str s,I (p+1:Nat)]):=by
 obtain⟨b,hb⟩:=Hl (s:=s) (i:=p/8) (by omega)
 have hb8:b.toNat<256:=b.toNat_lt
 have hbit:wH s p=b.toNat/2^(p%8)%2:=by simp [wH,hb]
 have t1:Int.tdiv (p:Int) 8=((p/8:Nat):Int):=ym p 8
 have t2:Int.tmod (p:Int) 8=((p%8:Nat):Int):=AR p 8
 have w1:IntKind.wrap .i64 ((p/8:Nat):Int)=((p/8:Nat):Int):=uS (by omega)
 have a1:da (I (p/8:Nat)) s.size=some (p/8):=kf (by omega)
 have s1:oQ .shr .u8 (b.toNat:Int) ((p%8:Nat):Int)=some (.int .u8 ((b.toNat/2^(p%8):Nat):Int)):=Mx (by omega)
 have hlt:b.toNat/2^(p%8)<256:=Nat.lt_of_le_of_lt (Nat.div_le_self _ _) hb8
 have n1:bits .and .u8 ((b.toNat/2^(p%8):Nat):Int) 1=((wH s p:Nat):Int):=by
  have:=Eu (b:=1) hlt (by omega)
  rw[Nat.and_one_is_mod]at this
  rw[hbit];exact this
 have hbl:=Cu s p
 have w2:IntKind.wrap .i64 ((wH s p:Nat):Int)=((wH s p:Nat):Int):=uS (by omega)
 have hpow:(2:Nat)^i≤2^16:=QA (by omega) (by omega)
 have hmul:wH s p* 2^i≤2^i:=by
  have:=uw (2^i) hbl;simpa using this
 have s2:oQ .shl .i64 ((wH s p:Nat):Int) (i:Int)=some (.int .i64 ((wH s p* 2^i:Nat):Int)):=B9 (by omega) (by omega)
 have o1:bits .or .i64 (x:Int) ((wH s p* 2^i:Nat):Int)=((x+wH s p* 2^i:Nat):Int):=by
  rw[Hd (by omega) (by omega),Mp hx]
 have w3:IntKind.wrap .i64 ((p:Int)+1)=((p+1:Nat):Int):=uS (n:=p+1) (by omega)
 have w4:IntKind.wrap .i64 ((i:Int)+1)=((i+1:Nat):Int):=uS (n:=i+1) (by omega)
 generalize hB:wH s p=B at *
 generalize hD:b.toNat/2^(p%8)=D at *
 generalize hE:p/8=E at *
 generalize hF:p%8=F at *
 generalize hO:x+B* 2^i=O at *
 generalize hM:B* 2^i=W at *
 simp only[I]at *
 simp [AP.f58L0,aK,au,aM,ai,ah,hg,rq,ry,t1,t2,w1,lS,a1,hb,s1,n1,w2,s2,o1,w3,w4,hi,hf]
theorem CI (r:Nat) (s:ByteArray) (p n:Nat) (hs:s.size<1125899906842624) (hp:p+n≤8* s.size) (hn:n≤16):∀(k i:Nat) (h:H),i+k=n→h.get r=some [.str s,I (p+i:Nat)]→h.floor≤r→
 ∃e',Lp AP.A [0,6,32,33] AP.f58L0 [(0,.aC r 0),(6,I (u0 s p i:Nat)),(32,I n),(33,I i)] h=some (.exit 1,e',h.set r [.str s,I (p+n:Nat)])∧look e' 6=I (u0 s p n:Nat)
 | 0, i, h, hk, hg, hf => by
   obtain rfl:i=n:=by omega
   refine⟨[(0,.aC r 0),(6,I (u0 s p i:Nat)),(32,I i),(33,I i),(34,.bool false)],sN ?_,rfl⟩
   rw[H.jz hg]
   simp [AP.f58L0,aK,au,ai,ah,I]
 | k + 1, i, h, hk, hg, hf => by
   have st:=FK h r s (p+i) (u0 s p i) i n hg hf (by omega) hs (vX s p i) (by omega) hn
   obtain⟨e',k1,k2⟩:=CI r s p n hs hp hn k (i+1) (h.set r [.str s,I (p+i+1:Nat)]) (by omega) (by rw[H.dB,if_pos rfl,hg];rfl) (by simpa using hf)
   rw[H.set_set]at k1
   exact⟨e',sP st k1,k2⟩
theorem L3 (h:H) (r:Nat) (s:ByteArray) (p n:Nat) (hg:h.get r=some [.str s,I p]) (hf:h.floor≤r) (hs:s.size<1125899906842624) (hp:p+n≤8* s.size) (hn:n≤16):
 aQ AP.A 58 [.aC r 0,I n] h=some (.bO [I (u0 s p n:Nat),I 0],h.set r [.str s,I (p+n:Nat)]):=by
 obtain⟨e',k1,k2⟩:=CI r s p n hs hp hn n 0 h (by omega) hg hf
 have l1:=pG (k:=[6]) k1
 simp only[qI,rh,k2]at l1
 have c0:¬(n:Int)<0:=by omega
 have c1:¬(16:Int)<n:=by omega
 have w1:IntKind.wrap .i64 (8* (s.size:Int))=((8* s.size:Nat):Int):=uS (n:=8* s.size) (by omega)
 have w2:IntKind.wrap .i64 (((8* s.size:Nat):Int)-p)=((8* s.size-p:Nat):Int):=by
  rw[←Int.ofNat_sub (by omega)];exact uS (by omega)
 have c2:¬((8* s.size-p:Nat):Int)<n:=by omega
 refine ta (fn:=AP.f58) (e:=[(4,I (u0 s p n:Nat)),(5,I 0)]) rfl rfl rfl ?_ rfl
 unfold AP.f58
 refine tS (e1:=[(0,.aC r 0),(1,I n)]) (h1:=h) rfl ?_
 refine tS (e1:=[(0,.aC r 0),(1,I n)]) (h1:=h) ?_ ?_
 · generalize hM:8* s.size-p=W at *
   generalize hM2:8* s.size=W2 at *
   simp only[I]at *
   simp [aK,au,aM,ai,ah,fu,oU,hg,iY,w1,w2,c0,c1,c2]
 refine tS (e1:=[(0,.aC r 0),(1,I n),(6,I 0)]) (h1:=h) rfl ?_
 refine tS (e1:=[(6,I (u0 s p n:Nat))]) (h1:=h.set r [.str s,I (p+n:Nat)]) ?_ ?_
 · refine tS (e1:=[(0,.aC r 0),(6,I 0),(32,I n),(33,I 0)]) (h1:=h) rfl ?_
   exact l1
 exact tS (e1:=[(4,I (u0 s p n:Nat)),(5,I 0)]) (h1:=h.set r [.str s,I (p+n:Nat)]) rfl rfl
theorem HB (h:H) (r:Nat) (s:ByteArray) (p n:Nat) (hg:h.get r=some [.str s,I p]) (hs:s.size<1125899906842624) (hp0:p≤8* s.size) (hp:8* s.size<p+n) (hn:n≤16):
 aQ AP.A 58 [.aC r 0,I n] h=some (.bO [I 0,I 101],h):=by
 have c0:¬(n:Int)<0:=by omega
 have c1:¬(16:Int)<n:=by omega
 have w1:IntKind.wrap .i64 (8* (s.size:Int))=((8* s.size:Nat):Int):=uS (n:=8* s.size) (by omega)
 have w2:IntKind.wrap .i64 (((8* s.size:Nat):Int)-p)=((8* s.size-p:Nat):Int):=by
  rw[←Int.ofNat_sub (by omega)];exact uS (by omega)
 have c2:((8* s.size-p:Nat):Int)<n:=by omega
 refine ta (fn:=AP.f58) (e:=[(4,I 0),(5,I 101)]) rfl rfl rfl ?_ rfl
 unfold AP.f58
 refine tS (e1:=[(0,.aC r 0),(1,I n)]) (h1:=h) rfl ?_
 refine tT ?_
 generalize hM:8* s.size-p=W at *
 generalize hM2:8* s.size=W2 at *
 simp only[I]at *
 simp [aK,au,aM,ai,ah,fu,oU,hg,iY,w1,w2,c0,c1,c2]
attribute [local congr] sQ
theorem wy {A:bb} {f:Nat} {fn:eW} {args:List AV} {h h2:H} {e:Env} {vs:List AV} (hf:A f=some fn) (hnp:args.length=fn.np) (hp:fn.pure=false)
 (hx:aK (aQ A) bA fn.body (params 0 args) h=some (.normal,e,h2)) (hres:cJ e h2 fn.res=some vs):aQ A f args h=some (dx vs,h2):=by
 refine kl hf ?_
 unfold eU
 rw[if_pos hnp]
 simp [hp,hx,fin,hres]
def yt (l:List Nat):List AV:=l.map fun (b:Nat)=>AV.int .u8 (b:Int)
@[simp] theorem xP (l : List Nat) : (yt l).length = l.length := by simp [yt]
structure SS where
 at_:Nat
 out:List Nat
 e:Int
structure SC where
 s:Nat
 r:Nat
 text:ByteArray
 most:Int
structure St (c:SC) (S:SS) (h:H) (ov:AV):Prop where
 gs:h.get c.s=some [.aC c.r 0,ov,I c.most,I S.e]
 gr:h.get c.r=some [.str c.text,I S.at_]
 own:mW h ov (yt S.out)
 sr:c.s≠c.r
 fs:h.floor≤c.s
 fr:h.floor≤c.r
 os:ov.id?≠some c.s
 or:ov.id?≠some c.r
 nx:h.floor≤h.next
 sz:c.text.size<1125899906842624
 xD:S.at_≤8* c.text.size
 ol:(S.out.length:Int)≤c.most
 ml:c.most≤900000
structure Fr (c:SC) (h:H) (ov:AV) (h':H) (ov':AV):Prop where
 fl:h'.floor=h.floor
 nx:h.next≤h'.next
 Dj:∀id,id<h.next→id≠c.s→id≠c.r→ov.id?≠some id→h'.get id=h.get id
 nb:∀i,ov'.id?=some i→ov.id?=some i∨h.next≤i
theorem Fr.refl (c:SC) (h:H) (ov:AV):Fr c h ov h ov:=⟨rfl,ur _,fun _ _ _ _ _=>rfl,fun _ q=>.inl q⟩
theorem Fr.trans {c:SC} {h1 h2 h3:H} {o1 o2 o3:AV} (a:Fr c h1 o1 h2 o2) (b:Fr c h2 o2 h3 o3):Fr c h1 o1 h3 o3:=by
 refine⟨b.fl.trans a.fl,uL a.nx b.nx,fun id h4 h5 h6 h7=> ?_,fun i hi=> ?_⟩
 · rw[b.Dj id (Nat.lt_of_lt_of_le h4 a.nx) h5 h6 (fun q=> ?_),a.Dj id h4 h5 h6 h7]
   rcases a.nb id q with q|q
   · exact h7 q
   · omega
 · rcases b.nb i hi with q|q
   · exact a.nb i q
   · exact .inr (uL a.nx q)
theorem St.Ov {c:SC} {S:SS} {h:H} {ov:AV} (st:St c S h ov) (e:Int):St c {S with e:=e} (h.set c.s [.aC c.r 0,ov,I c.most,I e]) ov∧Fr c h ov (h.set c.s [.aC c.r 0,ov,I c.most,I e]) ov:=by
 refine⟨⟨by rw[H.dB,if_pos rfl,st.gs];rfl,by rw[H.dB,if_neg (Ne.symm st.sr)];exact st.gr,st.own.mono (by simp) fun i hi=> ?_,st.sr,by simpa using st.fs,by simpa using st.fr,st.os,st.or,by simpa using st.nx,st.sz,st.xD,st.ol,st.ml⟩,⟨by simp,by simp,fun id h1 h2 h3 h4=>by rw[H.dB,if_neg h2],fun _ q=>.inl q⟩⟩
 rw[H.dB,if_neg];intro (e:i=c.s);exact st.os (e ▸ hi)
theorem St.Mw {c:SC} {S:SS} {h:H} {ov:AV} (st:St c S h ov) {p:Nat} (hp:p≤8* c.text.size):St c {S with at_:=p} (h.set c.r [.str c.text,I p]) ov∧Fr c h ov (h.set c.r [.str c.text,I p]) ov:=by
 refine⟨⟨by rw[H.dB,if_neg st.sr];exact st.gs,by rw[H.dB,if_pos rfl,st.gr];rfl,st.own.mono (by simp) fun i hi=> ?_,st.sr,by simpa using st.fs,by simpa using st.fr,st.os,st.or,by simpa using st.nx,st.sz,hp,st.ol,st.ml⟩,⟨by simp,by simp,fun id h1 h2 h3 h4=>by rw[H.dB,if_neg h3],fun _ q=>.inl q⟩⟩
 rw[H.dB,if_neg];intro (e:i=c.r);exact st.or (e ▸ hi)
def vi (k:Int) (S:SS):SS:=if S.e=0 then {S with e:=k}else S
theorem wx {c:SC} {S:SS} {h:H} {ov:AV} (st:St c S h ov) (k:Int):∃h',aQ AP.A 45 [.aC c.s 0,I k] h=some (.bO [],h')∧St c (vi k S) h' ov∧Fr c h ov h' ov:=by
 have gs:=st.gs
 have fs:=st.fs
 by_cases he:S.e=0
 · refine⟨_, ?_,by rw[vi,if_pos he];exact(st.Ov k).1,(st.Ov k).2⟩
   refine wy (fn:=AP.f45) (e:=[]) rfl rfl rfl ?_ rfl
   simp only[I]at *
   simp [AP.f45,params,aK,au,ai,ah,gs,he,fs]
 · refine⟨h, ?_,by rw[vi,if_neg he];exact st,Fr.refl _ _ _⟩
   refine wy (fn:=AP.f45) (e:=[]) rfl rfl rfl ?_ rfl
   simp only[I]at *
   simp [AP.f45,params,aK,au,ai,ah,gs,he,fs]
def uV (c:SC) (n:Nat) (S:SS):Nat×SS:=if S.at_+n≤8* c.text.size then(u0 c.text S.at_ n,{S with at_:=S.at_+n})else(0,vi 700 S)
theorem FJ {c:SC} {S:SS} {h:H} {ov:AV} (st:St c S h ov) {n:Nat} (hn:n≤16):∃h',aQ AP.A 38 [.aC c.s 0,I n] h=some (I ((uV c n S).1:Nat),h')∧St c (uV c n S).2 h' ov∧Fr c h ov h' ov:=by
 have gs:=st.gs
 by_cases hp:S.at_+n≤8* c.text.size
 · have g:=L3 h c.r c.text S.at_ n st.gr st.fr st.sz hp hn
   refine⟨_, ?_,by rw[uV,if_pos hp];exact(st.Mw hp).1,(st.Mw hp).2⟩
   rw[uV,if_pos hp]
   refine ta (fn:=AP.f38) (e:=[(4,I (u0 c.text S.at_ n:Nat))]) rfl rfl rfl ?_ rfl
   simp only[I]at *
   simp [AP.f38,params,aK,au,ai,ah,gs,aW,g]
 · have g:=HB h c.r c.text S.at_ n st.gr st.sz st.xD (by omega) hn
   obtain⟨h',k1,k2,k3⟩:=wx st 700
   refine⟨h', ?_,by rw[uV,if_neg hp];exact k2,k3⟩
   rw[uV,if_neg hp]
   refine ta (fn:=AP.f38) (e:=[(4,I 0)]) rfl rfl rfl ?_ rfl
   simp only[I]at *
   simp [AP.f38,params,aK,au,ai,ah,gs,aW,g,k1]
def Az (c:SC) (b:Nat) (S:SS):SS:=
 let T:=if c.most≤S.out.length then vi 701 S else S
 if T.e=0 then {T with out:=T.out++[b]}else T
theorem mW.len {h:H} {v:AV} {cs:List AV} (o:mW h v cs):iY false v=some (I cs.length):=by
 rcases o with ⟨rfl,rfl⟩|⟨id,rfl,_⟩<;>rfl
theorem Gk {c : SC} {S : SS} {h : H} {ov : AV} (st : St c S h ov) {b : Nat} : ∃ h' ov', aQ AP.A 59 [.aC c.s 0, .int .u8 b] h = some (.bO [], h') ∧ St c (Az c b S) h' ov' ∧ Fr c h ov h' ov' := by
 have gs0:=st.gs
 have hol:=st.ol
 have hml:=st.ml
 have ln:=st.own.len
 rw[xP]at ln
 by_cases hm:c.most≤S.out.length
 · obtain⟨h1,k1,k2,k3⟩:=wx st 701
   have he:(vi 701 S).e≠0:=by unfold vi;split<;>simp_all
   have hp:Az c b S=vi 701 S:=by unfold Az;simp only[if_pos hm,if_neg he]
   have gs1:=k2.gs
   refine⟨h1,ov, ?_,by rw[hp];exact k2,k3⟩
   refine wy (fn:=AP.f59) (e:=[]) rfl rfl rfl ?_ rfl
   simp only[I]at *
   simp [AP.f59,params,aK,au,aM,ai,ah,gs0,ln,hm,aW,k1,gs1,he]
 by_cases he:S.e=0
 · have hp:Az c b S={S with out:=S.out++[b]}:=by unfold Az;simp only[if_neg hm,if_pos he]
   have hsl:c.s<h.next:=h.lt _ _ st.gs
   have hrl:c.r<h.next:=h.lt _ _ st.gr
   obtain⟨h1,eh1⟩:∃g,g=h.alloc [.int .u8 b]:=⟨_,rfl⟩
   have hlo1:∀i,i≠h.next→h1.get i=h.get i:=fun i q=>by rw[eh1,H.aV,if_neg q]
   have hfl1:h1.floor=h.floor:=by rw[eh1];simp
   have hnx1:h1.next=h.next+1:=by rw[eh1];simp
   have ho1:mW h1 ov (yt S.out):=st.own.mono hfl1 fun i hi=>hlo1 i (by have:=st.own.lt hi;omega)
   have hnxf:=st.nx
   obtain⟨v',h2,q1,q2,q3,q4,q5,q6⟩:=ho1.app (by omega) (z:=1) (.int .u8 b) rfl (by simp [roomy];omega)
   have hal2:h1.get h.next=some [.int .u8 b]:=by rw[eh1,H.aV,if_pos rfl]
   have gs1:h1.get c.s=some [.aC c.r 0,ov,I c.most,I S.e]:=by rw[hlo1 _ (by omega)];exact st.gs
   have gs2:h2.get c.s=some [.aC c.r 0,ov,I c.most,I S.e]:=by rw[q5 _ st.os (by omega)];exact gs1
   have gr2:h2.get c.r=some [.str c.text,I S.at_]:=by rw[q5 _ st.or (by omega),hlo1 _ (by omega)];exact st.gr
   have fs2:h2.floor≤c.s:=by have:=st.fs;omega
   have hv':v'.cells=[v']∧v'.sc=true:=by
    rcases q2 with ⟨rfl,_⟩|⟨id,rfl,_⟩<;>exact⟨rfl,rfl⟩
   have hby:yt (S.out++[b])=yt S.out++[.int .u8 b]:=by simp [yt]
   refine⟨h2.set c.s [.aC c.r 0,v',I c.most,I S.e],v', ?_, ?_, ?_⟩
   · refine wy (fn:=AP.f59) (e:=[]) rfl rfl rfl ?_ rfl
     simp only[I]at *
     simp [AP.f59,params,aK,au,aM,ai,ah,bw,aX,dM,dV,kz,aR,gs0,ln,hm,he,←eh1,hal2,gs1,q1,gs2,fs2,hv'.1,hv'.2]
   · rw[hp]
     refine⟨by rw[H.dB,if_pos rfl,gs2];rfl,by rw[H.dB,if_neg (Ne.symm st.sr)];exact gr2, ?_,st.sr,by simpa using fs2,by have:=st.fr;simp;omega, ?_, ?_,by simp;omega,st.sz,st.xD,by simp;omega,st.ml⟩
     · rw[hby]
       refine q2.mono (by simp) fun i hi=> ?_
       rw[q6]at hi;cases hi
       rw[H.dB,if_neg (by omega)]
     · rw[q6];intro e;have:=ue e;omega
     · rw[q6];intro e;have:=ue e;omega
   · refine⟨by simp;omega,by simp;omega,fun id a1 a2 a3 a4=> ?_,fun i hi=> ?_⟩
     · rw[H.dB,if_neg a2,q5 id a4 (by omega),hlo1 id (by omega)]
     · rw[q6]at hi;cases hi;right;omega
 · have hp:Az c b S=S:=by unfold Az;simp only[if_neg hm,if_neg he]
   refine⟨h,ov, ?_,by rw[hp];exact st,Fr.refl _ _ _⟩
   refine wy (fn:=AP.f59) (e:=[]) rfl rfl rfl ?_ rfl
   simp only[I]at *
   simp [AP.f59,params,aK,au,aM,ai,ah,gs0,ln,hm,he]
theorem OQ (h:H) (s:ByteArray):aQ AP.A 14 [.str s] h=some (.aC h.next 0,h.alloc [.str s,I 0]):=by
 refine ta (fn:=AP.f14) (e:=[(2,.aC h.next 0)]) rfl rfl rfl ?_ rfl
 have b:aX [(4,.agg [.str s,I 0]),(3,.str s),(0,.str s)] (.box 2 (.t 4))=some ([.str s,I 0],fun i=>.aC i 0):=rfl
 have f:dV [.str ⟨#[]⟩,.int .i64 0] [(0,1,.str s)]=some [.str s,I 0]:=rfl
 simp only[I]at *
 simp only[AP.f14,go_sem,Qz,List.map_nil,f,b]
theorem G0 (h:H) (r:Nat) (s:ByteArray) (p:Nat) (hg:h.get r=some [.str s,I p]) (hf:h.floor≤r) (hs:s.size<1125899906842624) (hp:p≤8* s.size):
 aQ AP.A 16 [.aC r 0] h=some (I 0,h.set r [.str s,I ((p+7)/8* 8:Nat)]):=by
 refine ta (fn:=AP.f16) (e:=[(2,I 0)]) rfl rfl rfl ?_ rfl
 have w1:IntKind.wrap .i64 ((p:Int)+8)=((p+8:Nat):Int):=uS (n:=p+8) (by omega)
 have w2:IntKind.wrap .i64 (((p+8:Nat):Int)-1)=((p+7:Nat):Int):=by
  rw[show((p+8:Nat):Int)-1=((p+7:Nat):Int)by omega];exact uS (by omega)
 have w3:IntKind.wrap .i64 (((p+7:Nat):Int).tdiv 8)=(((p+7)/8:Nat):Int):=by
  rw[show(8:Int)=((8:Nat):Int)from rfl,ym];exact uS (by omega)
 have w4:IntKind.wrap .i64 ((((p+7)/8:Nat):Int)* 8)=(((p+7)/8* 8:Nat):Int):=by
  rw[show(((p+7)/8:Nat):Int)* 8=(((p+7)/8* 8:Nat):Int)by omega];exact uS (by omega)
 have st:∀v,tD h r 1 1 [.int .i64 v] (some [.str s,.int .i64 p])=some (h.set r [.str s,.int .i64 v]):=fun v=>tV hf (by simp) rfl
 have q:bp .quo (.int .i64 ((p+7:Nat):Int)) (.int .i64 8)=some (.int .i64 (((p+7)/8:Nat):Int)):=by rw[rq _ _ _ (by omega),w3]
 simp only[I]at *
 simp only[AP.f16,go_sem,hg,w1,w2,q,w4,st]
theorem OH (h:H) (r:Nat) (s:ByteArray) (p:Nat) (hg:h.get r=some [.str s,I p]):aQ AP.A 17 [.aC r 0] h=some (I p,h):=by
 refine ta (fn:=AP.f17) (e:=[(2,I p)]) rfl rfl rfl ?_ rfl
 simp only[I]at *
 simp only[AP.f17,go_sem,hg]
theorem xJ {c:SC} {S:SS} {h:H} {ov:AV} (st:St c S h ov) (n:Nat) (m:Int) (hm:m=n) (hn:n≤16):∃h',aQ AP.A 38 [.aC c.s 0,I m] h=some (I ((uV c n S).1:Nat),h')∧St c (uV c n S).2 h' ov∧Fr c h ov h' ov:=by
 subst hm;exact FJ st hn
theorem Eg {c:SC} {S:SS} {h:H} {ov:AV} (st:St c S h ov) {n least:Nat} (hn:n≤16) (hl:least<100000):∃h',aQ AP.A 73 [.aC c.s 0,I least,I n,I 0] h=some (I ((least+(uV c n S).1:Nat)),h')∧St c (uV c n S).2 h' ov∧Fr c h ov h' ov:=by
 obtain⟨h',k1,k2,k3⟩:=FJ st hn
 refine⟨h', ?_,k2,k3⟩
 have hb:(uV c n S).1<65536:=by
  unfold uV;split
  · have:=vX c.text S.at_ n
    have:=QA (show 0<2 by omega) hn
    simp at *;omega
  · simp
 have w:IntKind.wrap .i64 ((least:Int)+((uV c n S).1:Nat))=((least+(uV c n S).1:Nat):Int):=by
  rw[show(least:Int)+((uV c n S).1:Nat)=((least+(uV c n S).1:Nat):Int)by omega];exact uS (by omega)
 refine ta (fn:=AP.f73) (e:=[(8,I ((least+(uV c n S).1:Nat)))]) rfl rfl rfl ?_ rfl
 simp only[I]at *
 simp only[AP.f73,go_sem,k1,w]
theorem BB {c:SC} {S:SS} {h:H} {ov:AV} (st:St c S h ov) (he:S.e=0):∃h' S',aQ AP.A 73 [.aC c.s 0,I 0,I 0,I 600] h=some (I 0,h')∧St c S' h' ov∧Fr c h ov h' ov∧S'.e=700:=by
 obtain⟨h1,k1,k2,k3⟩:=wx st 700
 obtain⟨h',l1,l2,l3⟩:=FJ k2 (n:=0) (by omega)
 have hS:vi 700 S={S with e:=700}:=by rw[vi,if_pos he]
 have hle:=st.xD
 have hg:uV c 0 (vi 700 S)=(0,vi 700 S):=by
  rw[uV,if_pos (by rw[hS];exact hle)];rfl
 rw[hg]at l1 l2
 have l1':aQ AP.A 38 [.aC c.s 0,I 0] h1=some (I 0,h'):=l1
 clear l1
 refine⟨h',_, ?_,l2,k3.trans l3,by rw[hS]⟩
 have w:IntKind.wrap .i64 (0+0)=0:=tg (by omega) (by omega)
 refine ta (fn:=AP.f73) (e:=[(8,I 0)]) rfl rfl rfl ?_ rfl
 simp only[I]at *
 simp only[AP.f73,go_sem,k1,l1',w]
def yG (t:ByteArray) (l:List Int):Nat→Nat→Nat→Nat→Option (Int×Nat)
 |0,_,_,_=>none
 |k+1,n,v,p=>if p+1≤8* t.size then(match xI l n ((v* 2+u0 t p 1:Nat):Int)with|some y=>some (y,p+1)|none=>yG t l k (n+1) (v* 2+u0 t p 1) (p+1))else none
theorem De {c:SC} {S:SS} {h:H} {ov:AV} (st:St c S h ov) (l:List Int) (v n:Nat) (hs:n=16∨(n≤15∧S.e≠0)):
 ∃e',Lp AP.A [0,1,5,6] AP.f60L0 [(0,.aC c.s 0),(1,vg l),(5,I v),(6,I n)] h=some (.exit 0,e',h)∧look e' 0=.aC c.s 0:=by
 have gs:=st.gs
 refine⟨[(0,.aC c.s 0),(1,vg l),(5,I v),(6,I n),(17,.bool false)],sN ?_,rfl⟩
 rcases hs with hn|⟨hn,he⟩
 · have c1:¬(n:Int)≤15:=by omega
   simp only[I]at *
   simp only[AP.f60L0,go_sem,Qn c1]
 · have c1:(n:Int)≤15:=by omega
   have c2:(S.e==0)=false:=tH he
   simp only[I]at *
   simp only[AP.f60L0,go_sem,Qq c1,gs,c2]
theorem Dd {c : SC} (l : List Int) (hl : l.length < 100000) : ∀ (k n v : Nat) (S : SS) (h : H) (ov : AV), n + k = 16 → 1 ≤ n → v < 2 ^ (n - 1) → St c S h ov → S.e = 0 →
 ∃ h' S', St c S' h' ov ∧ Fr c h ov h' ov ∧ match yG c.text l k n v S.at_ with
   |some (y,p)=>S'={S with at_:=p}∧∃e',Lp AP.A [0,1,5,6] AP.f60L0 [(0,.aC c.s 0),(1,vg l),(5,I v),(6,I n)] h=some (.ret,e',h')∧look e' 4=I y
   |none=>(S'.e=0∨S'.e=700)∧∃e',Lp AP.A [0,1,5,6] AP.f60L0 [(0,.aC c.s 0),(1,vg l),(5,I v),(6,I n)] h=some (.exit 0,e',h')∧look e' 0=.aC c.s 0
 | 0, n, v, S, h, ov, hk, hn, hv, st, he => by
   obtain⟨e',q1,q2⟩:=De st l v n (.inl (by omega))
   exact⟨h,S,st,Fr.refl _ _ _,by simp only[yG];exact⟨.inl he,e',q1,q2⟩⟩
 | k + 1, n, v, S, h, ov, hk, hn, hv, st, he => by
   have gs:=st.gs
   obtain⟨h1,k1,k2,k3⟩:=xJ st 1 1 rfl (by omega)
   obtain⟨x,hx⟩:∃x,x=(uV c 1 S).1:=⟨_,rfl⟩
   obtain⟨S1,hS1⟩:∃x,x=(uV c 1 S).2:=⟨_,rfl⟩
   rw[←hx]at k1;rw[←hS1]at k2
   have hp:2^n≤2^15:=QA (by omega) (by omega)
   have h2:2^(n-1+1)=2^(n-1)* 2:=Nat.pow_succ 2 (n-1)
   rw[show n-1+1=n by omega]at h2
   obtain⟨P,hP⟩:∃P:Nat,P=2^(n-1):=⟨_,rfl⟩
   rw[←hP]at h2 hv
   obtain⟨Q,hQ⟩:∃Q:Nat,Q=2^n:=⟨_,rfl⟩
   rw[←hQ]at h2 hp
   simp only[Nat.reducePow]at hp
   have hx1:x<2:=by
    rw[hx];unfold uV;split
    · have:=vX c.text S.at_ 1;simpa using this
    · simp
   have hv':v* 2+x<Q:=by omega
   have w1:IntKind.wrap .i64 ((v:Int)* 2)=((v* 2:Nat):Int):=by
    rw[show(v:Int)* 2=((v* 2:Nat):Int)by omega];exact uS (by omega)
   have w2:IntKind.wrap .i64 (((v* 2:Nat):Int)+(x:Int))=((v* 2+x:Nat):Int):=by
    rw[show((v* 2:Nat):Int)+(x:Int)=((v* 2+x:Nat):Int)by omega];exact uS (by omega)
   have w3:IntKind.wrap .i64 ((n:Int)+1)=((n+1:Nat):Int):=uS (n:=n+1) (by omega)
   have c1:(n:Int)≤15:=by omega
   have fc:=Ku h1 l hl n hn (by omega) ((v* 2+x:Nat):Int) (by omega) (by omega)
   have gs1:=k2.gs
   have step:(xI l n ((v* 2+x:Nat):Int)=none∨S1.e≠0)→aK (aQ AP.A) bA AP.f60L0 (ax [(0,.aC c.s 0),(1,vg l),(5,I v),(6,I n)] [0,1,5,6]) h=some (.normal,[(0,.aC c.s 0),(1,vg l),(5,I (v* 2+x:Nat)),(6,I (n+1:Nat))],h1):=by
    intro hc
    rcases hc with hc|hc
    · rw[hc]at fc
      simp only[I]at *
      simp only[AP.f60L0,go_sem,Qq c1,gs,he,k1,w1,w2,fc,w3]
    · have c2:(S1.e==0)=false:=tH hc
      cases hf:xI l n ((v* 2+x:Nat):Int)with
      | none =>
        rw[hf]at fc
        simp only[I]at *
        simp only[AP.f60L0,go_sem,Qq c1,gs,he,k1,w1,w2,fc,w3]
      | some y =>
        rw[hf]at fc
        simp only[I]at *
        simp only[AP.f60L0,go_sem,Qq c1,gs,he,k1,w1,w2,fc,w3,gs1,c2]
   by_cases hat:S.at_+1≤8* c.text.size
   · have eg:uV c 1 S=(u0 c.text S.at_ 1,{S with at_:=S.at_+1}):=by rw[uV,if_pos hat]
     rw[eg]at hx hS1
     dsimp only at hx hS1
     subst hx hS1
     rw[yG,if_pos hat]
     cases hf:xI l n ((v* 2+u0 c.text S.at_ 1:Nat):Int)with
     | none =>
       obtain⟨h',S',q1,q2,q3⟩:=Dd l hl k (n+1) (v* 2+u0 c.text S.at_ 1) _ h1 ov (by omega) (by omega) (by rw[Nat.add_sub_cancel,←hQ];exact hv') k2 he
       refine⟨h',S',q1,k3.trans q2, ?_⟩
       dsimp only at q3 ⊢
       have sp:=step (.inl hf)
       cases hy:yG c.text l k (n+1) (v* 2+u0 c.text S.at_ 1) (S.at_+1)with
       | none =>
         rw[hy]at q3
         obtain⟨q3,e',q4,q5⟩:=q3
         exact⟨q3,e',sP sp q4,q5⟩
       | some y =>
         rw[hy]at q3
         obtain⟨q3,e',q4,q5⟩:=q3
         exact⟨q3,e',sP sp q4,q5⟩
     | some y =>
       refine⟨h1,_,k2,k3,rfl,[(4,I y)],tk ?_,rfl⟩
       rw[hf]at fc
       simp only[I]at *
       simp only[AP.f60L0,go_sem,Qq c1,gs,he,k1,w1,w2,fc,w3,gs1]
   · have eg:uV c 1 S=(0,{S with e:=700}):=by rw[uV,if_neg hat,vi,if_pos he]
     rw[eg]at hx hS1
     dsimp only at hx hS1
     subst hx hS1
     rw[yG,if_neg hat]
     have hst:n+1=16∨(n+1≤15∧(700:Int)≠0):=by omega
     obtain⟨e',q1,q2⟩:=De k2 l (v* 2+0) (n+1) hst
     exact⟨h1,_,k2,k3,.inr rfl,e',sP (step (.inr (by simp))) q1,q2⟩
theorem AN {c:SC} {S:SS} {h:H} {ov:AV} (l:List Int) (hl:l.length<100000) (st:St c S h ov) (he:S.e=0):
 ∃ h' S' y, aQ AP.A 60 [.aC c.s 0, vg l] h = some (I y, h') ∧ St c S' h' ov ∧ Fr c h ov h' ov ∧ match yG c.text l 15 1 0 S.at_ with
   |some (z,p)=>S'={S with at_:=p}∧y=z
   |none=>S'.e=700∧y=256:=by
 obtain⟨h1,S1,q1,q2,q3⟩:=Dd l hl 15 1 0 S h ov (by omega) (by omega) (by simp) st he
 cases hy:yG c.text l 15 1 0 S.at_ with
 | some yp =>
   rw[hy]at q3
   obtain⟨q3,e',q4,q5⟩:=q3
   refine⟨h1,S1,yp.1, ?_,q1,q2,q3,rfl⟩
   refine ta (fn:=AP.f60) (e:=e') (vs:=[I yp.1]) rfl rfl rfl ?_ (by simp only[AP.f60,cJ,mP,q5];rfl)
   have q6:Lp AP.A [0,1,5,6] AP.f60L0 [(0,.aC c.s 0),(1,vg l),(5,I 0),(6,I 1)] h=some (.ret,e',h1):=q4
   clear q4
   simp only[I]at *
   simp only[AP.f60,go_sem,rH,q6]
 | none =>
   rw[hy]at q3
   obtain⟨q3,e',q4,q5⟩:=q3
   obtain⟨h2,r1,r2,r3⟩:=wx q1 700
   refine⟨h2,vi 700 S1,256, ?_,r2,q2.trans r3, ?_,rfl⟩
   · refine ta (fn:=AP.f60) (e:=[(4,I 256)]) rfl rfl rfl ?_ rfl
     have q6:Lp AP.A [0,1,5,6] AP.f60L0 [(0,.aC c.s 0),(1,vg l),(5,I 0),(6,I 1)] h=some (.exit 0,e',h1):=q4
     clear q4
     simp only[I]at *
     simp only[AP.f60,go_sem,rH,q6,q5,r1]
   · rcases q3 with q3|q3<;>simp [vi,q3]
def lenOf (y:Nat):Option (Nat×Nat):=
 if y≤256∨285<y then none else if y=285 then some (258,0)else if y<265 then some (y-254,0)else some (3+(4+(y-257)%4)* 2^((y-257)/4-1),(y-257)/4-1)
def xz (y:Nat):Option (Nat×Nat):=
 if 30≤y then none else if y<4 then some (1+y,0)else some (1+(2+y%2)* 2^(y/2-1),y/2-1)
theorem FT {y a b:Nat} (h:lenOf y=some (a,b)):a≤258∧b≤5∧0<a:=by
 have key:∀y<286,∀a b,lenOf y=some (a,b)→a≤258∧b≤5∧0<a:=by
  intro y hy a b h
  have:((lenOf y).map fun p=>decide (p.1≤258∧p.2≤5∧0<p.1))=(lenOf y).map fun _=>true:=by
   clear h
   revert y
   decide+kernel
  rw[h]at this
  simpa using this
 by_cases hy:y<286
 · exact key y hy a b h
 · rw[lenOf,if_pos (by omega)]at h;cases h
theorem EB {y a b:Nat} (h:xz y=some (a,b)):a≤24577∧b≤13∧0<a:=by
 have key:∀y<30,∀a b,xz y=some (a,b)→a≤24577∧b≤13∧0<a:=by
  intro y hy a b h
  have:((xz y).map fun p=>decide (p.1≤24577∧p.2≤13∧0<p.1))=(xz y).map fun _=>true:=by
   clear h
   revert y
   decide+kernel
  rw[h]at this
  simpa using this
 by_cases hy:y<30
 · exact key y hy a b h
 · rw[xz,if_pos (by omega)]at h;cases h
def Dh (o:Option (Nat×Nat)):AV:=match o with
 |some p=>.bO [I p.1,I p.2,I 0]
 |none=>.bO [I 0,I 0,I 600]
theorem HH (h:H) (y:Nat) (hy:y<1000000):aQ AP.A 74 [I y] h=some (Dh (lenOf y),h):=by
 have d1:decide ((y:Int)≤256)=decide (y≤256):=by by_cases q:y≤256<;>simp [q]<;>omega
 have w1:IntKind.wrap .i64 ((y:Int)-256)=(y:Int)-256:=tg (by omega) (by omega)
 have w2:IntKind.wrap .i64 ((y:Int)-256-1)=(y:Int)-257:=by rw[show(y:Int)-256-1=(y:Int)-257 by omega];exact tg (by omega) (by omega)
 by_cases c1:y≤256
 · rw[lenOf,if_pos (.inl c1)]
   refine tB (fn:=AP.f74) (h2:=h.dU) (e:=[(2,I 0),(3,I 0),(4,I 600)]) rfl rfl rfl ?_ rfl rfl
   have c1':(y:Int)≤256:=by omega
   simp only[I]at *
   simp only[AP.f74,go_sem,w1,w2,Qq c1']
 have c1':¬(y:Int)≤256:=by omega
 by_cases c2:285<y
 · rw[lenOf,if_pos (.inr c2)]
   refine tB (fn:=AP.f74) (h2:=h.dU) (e:=[(2,I 0),(3,I 0),(4,I 600)]) rfl rfl rfl ?_ rfl rfl
   have c2':(285:Int)<y:=by omega
   simp only[I]at *
   simp only[AP.f74,go_sem,w1,w2,Qn c1',Qq c2']
 have c2':¬(285:Int)<y:=by omega
 rw[lenOf,if_neg (by omega)]
 by_cases c3:y=285
 · rw[if_pos c3]
   refine tB (fn:=AP.f74) (h2:=h.dU) (e:=[(2,I 258),(3,I 0),(4,I 0)]) rfl rfl rfl ?_ rfl rfl
   have c3':((y:Int)==285)=true:=tI (by omega)
   simp only[I]at *
   simp only[AP.f74,go_sem,w1,w2,Qn c1',Qn c2',c3']
 rw[if_neg c3]
 have c3':((y:Int)==285)=false:=tH (by omega)
 by_cases c4:y<265
 · rw[if_pos c4]
   refine tB (fn:=AP.f74) (h2:=h.dU) (e:=[(2,I (y-254:Nat)),(3,I 0),(4,I 0)]) rfl rfl rfl ?_ rfl rfl
   have c4':(y:Int)-257<8:=by omega
   have w3:IntKind.wrap .i64 (3+((y:Int)-257))=((y-254:Nat):Int):=by rw[show 3+((y:Int)-257)=((y-254:Nat):Int)by omega];exact uS (by omega)
   simp only[I]at *
   simp only[AP.f74,go_sem,w1,w2,Qn c1',Qn c2',c3',Qq c4',w3]
 rw[if_neg c4]
 have c4':¬(y:Int)-257<8:=by omega
 obtain⟨k,hk⟩:∃k:Nat,(y:Int)-257=k:=QJ (by omega)
 have hk':y-257=k:=by omega
 rw[hk]at w2 c4'
 rw[hk']
 have q1:bp .quo (.int .i64 (k:Int)) (.int .i64 4)=some (.int .i64 ((k/4:Nat):Int)):=by
  rw[rq _ _ _ (by omega),show(4:Int)=((4:Nat):Int)from rfl,ym,uS (by omega)]
 have q2:bp .rem (.int .i64 (k:Int)) (.int .i64 4)=some (.int .i64 ((k%4:Nat):Int)):=by
  rw[ry _ _ _ (by omega),show(4:Int)=((4:Nat):Int)from rfl,AR]
 have w3:IntKind.wrap .i64 (((k/4:Nat):Int)-1)=((k/4-1:Nat):Int):=by rw[show((k/4:Nat):Int)-1=((k/4-1:Nat):Int)by omega];exact uS (by omega)
 have w4:IntKind.wrap .i64 (4+((k%4:Nat):Int))=((4+k%4:Nat):Int):=by rw[show 4+((k%4:Nat):Int)=((4+k%4:Nat):Int)by omega];exact uS (by omega)
 have hp:2^(k/4-1)≤2^5:=QA (by omega) (by omega)
 have hm:(4+k%4)* 2^(k/4-1)≤7* 2^5:=Nat.mul_le_mul (by omega) hp
 have q3:oQ .shl .i64 ((4+k%4:Nat):Int) ((k/4-1:Nat):Int)=some (.int .i64 (((4+k%4)* 2^(k/4-1):Nat):Int)):=B9 (by omega) (by omega)
 generalize (4+k%4)* 2^(k/4-1)=P at *
 have w5:IntKind.wrap .i64 (3+(P:Int))=((3+P:Nat):Int):=by rw[show 3+(P:Int)=((3+P:Nat):Int)by omega];exact uS (by omega)
 refine tB (fn:=AP.f74) (h2:=h.dU) (e:=[(2,I (3+P:Nat)),(3,I (k/4-1:Nat)),(4,I 0)]) rfl rfl rfl ?_ rfl rfl
 simp only[I]at *
 simp only[AP.f74,go_sem,w1,w2,Qn c1',Qn c2',c3',Qn c4',q1,q2,w3,w4,q3,w5]
theorem Fz (h:H) (y:Nat) (hy:y<1000000):aQ AP.A 75 [I y] h=some (Dh (xz y),h):=by
 have c0:¬(y:Int)<0:=by omega
 by_cases c1:30≤y
 · rw[xz,if_pos c1]
   refine tB (fn:=AP.f75) (h2:=h.dU) (e:=[(2,I 0),(3,I 0),(4,I 600)]) rfl rfl rfl ?_ rfl rfl
   have c1':(30:Int)≤y:=by omega
   simp only[I]at *
   simp only[AP.f75,go_sem,Qn c0,Qq c1']
 have c1':¬(30:Int)≤y:=by omega
 rw[xz,if_neg c1]
 by_cases c2:y<4
 · rw[if_pos c2]
   refine tB (fn:=AP.f75) (h2:=h.dU) (e:=[(2,I (1+y:Nat)),(3,I 0),(4,I 0)]) rfl rfl rfl ?_ rfl rfl
   have c2':(y:Int)<4:=by omega
   have w3:IntKind.wrap .i64 (1+(y:Int))=((1+y:Nat):Int):=by rw[show 1+(y:Int)=((1+y:Nat):Int)by omega];exact uS (by omega)
   simp only[I]at *
   simp only[AP.f75,go_sem,Qn c0,Qn c1',Qq c2',w3]
 rw[if_neg c2]
 have c2':¬(y:Int)<4:=by omega
 have q1:bp .quo (.int .i64 (y:Int)) (.int .i64 2)=some (.int .i64 ((y/2:Nat):Int)):=by
  rw[rq _ _ _ (by omega),show(2:Int)=((2:Nat):Int)from rfl,ym,uS (by omega)]
 have q2:bp .rem (.int .i64 (y:Int)) (.int .i64 2)=some (.int .i64 ((y%2:Nat):Int)):=by
  rw[ry _ _ _ (by omega),show(2:Int)=((2:Nat):Int)from rfl,AR]
 have w3:IntKind.wrap .i64 (((y/2:Nat):Int)-1)=((y/2-1:Nat):Int):=by rw[show((y/2:Nat):Int)-1=((y/2-1:Nat):Int)by omega];exact uS (by omega)
 have w4:IntKind.wrap .i64 (2+((y%2:Nat):Int))=((2+y%2:Nat):Int):=by rw[show 2+((y%2:Nat):Int)=((2+y%2:Nat):Int)by omega];exact uS (by omega)
 have hp:2^(y/2-1)≤2^13:=QA (by omega) (by omega)
 have hm:(2+y%2)* 2^(y/2-1)≤3* 2^13:=Nat.mul_le_mul (by omega) hp
 have q3:oQ .shl .i64 ((2+y%2:Nat):Int) ((y/2-1:Nat):Int)=some (.int .i64 (((2+y%2)* 2^(y/2-1):Nat):Int)):=B9 (by omega) (by omega)
 generalize (2+y%2)* 2^(y/2-1)=P at *
 have w5:IntKind.wrap .i64 (1+(P:Int))=((1+P:Nat):Int):=by rw[show 1+(P:Int)=((1+P:Nat):Int)by omega];exact uS (by omega)
 refine tB (fn:=AP.f75) (h2:=h.dU) (e:=[(2,I (1+P:Nat)),(3,I (y/2-1:Nat)),(4,I 0)]) rfl rfl rfl ?_ rfl rfl
 simp only[I]at *
 simp only[AP.f75,go_sem,Qn c0,Qn c1',Qn c2',q1,q2,w3,w4,q3,w5]
abbrev Rs:=Except Int (Nat×List Nat)
def Fin (r:Rs) (S:SS):Prop:=match r with
 | .ok q=>S=⟨q.1,q.2,0⟩
 | .error k=>S.e=k∧k≠0
theorem B0 {c:SC} {S:SS} (b:Nat) (he:S.e=0) (hm:¬c.most≤S.out.length):Az c b S=⟨S.at_,S.out++[b],0⟩:=by
 simp only[Az,if_neg hm,he,if_true]
theorem zF {c:SC} {S:SS} (b:Nat) (he:S.e=0) (hm:c.most≤S.out.length):(Az c b S).e=701:=by
 simp [Az,hm,vi,he]
def wZ (t:ByteArray) (most:Int):Nat→Nat→List Nat→Rs
 |0,p,out=>.ok (p,out)
 |n+1,p,out=>if p+8≤8* t.size then(if most≤out.length then .error 701 else wZ t most n (p+8) (out++[u0 t p 8]))else .error 700
theorem xh {c:SC} {S:SS} {h:H} {ov:AV} (st:St c S h ov) (n:Nat) (hs:n=0∨S.e≠0):
 ∃e',Lp AP.A [0,2] AP.f39L0 [(0,.aC c.s 0),(2,I n)] h=some (.exit 0,e',h):=by
 have gs:=st.gs
 refine⟨[(0,.aC c.s 0),(2,I n),(26,.bool false)],sN ?_⟩
 by_cases hn:n=0
 · have c1:¬(0:Int)<n:=by omega
   simp only[I]at *
   simp only[AP.f39L0,go_sem,Qn c1]
 · have c1:(0:Int)<n:=by omega
   have c2:(S.e==0)=false:=tH (by omega)
   simp only[I]at *
   simp only[AP.f39L0,go_sem,Qq c1,gs,c2]
theorem AL {c : SC} : ∀ (n : Nat) (S : SS) (h : H) (ov : AV), St c S h ov → S.e = 0 → n ≤ 65535 →
 ∃e' h' ov' S',Lp AP.A [0,2] AP.f39L0 [(0,.aC c.s 0),(2,I n)] h=some (.exit 0,e',h')∧St c S' h' ov'∧Fr c h ov h' ov'∧Fin (wZ c.text c.most n S.at_ S.out) S'
 | 0, S, h, ov, st, he, hn => by
   obtain⟨e',q⟩:=xh st 0 (.inl rfl)
   exact⟨e',h,ov,S,q,st,Fr.refl _ _ _,by simp only[wZ,Fin];cases S;simp_all⟩
 | n + 1, S, h, ov, st, he, hn => by
   have gs:=st.gs
   obtain⟨h1,k1,k2,k3⟩:=xJ st 8 8 rfl (by omega)
   have gs1:=k2.gs
   have c1:(0:Int)<((n+1:Nat):Int):=by omega
   have w1:IntKind.wrap .i64 (((n+1:Nat):Int)-1)=(n:Int):=by rw[show((n+1:Nat):Int)-1=(n:Int)by omega];exact uS (by omega)
   by_cases hp:S.at_+8≤8* c.text.size
   · have eg:uV c 8 S=(u0 c.text S.at_ 8,{S with at_:=S.at_+8}):=by rw[uV,if_pos hp]
     rw[eg]at k1 k2 gs1
     dsimp only at k1 k2 gs1
     obtain⟨h2,ov2,p1,p2,p3⟩:=Gk k2 (b:=u0 c.text S.at_ 8)
     have hb:=vX c.text S.at_ 8
     have w2:IntKind.wrap .u8 ((u0 c.text S.at_ 8:Nat):Int)=((u0 c.text S.at_ 8:Nat):Int):=wrap_u8 (by simpa using hb)
     have step:aK (aQ AP.A) bA AP.f39L0 (ax [(0,.aC c.s 0),(2,I (n+1:Nat))] [0,2]) h=some (.normal,[(0,.aC c.s 0),(2,I n)],h2):=by
      simp only[I]at *
      simp only[AP.f39L0,go_sem,Qq c1,gs,he,k1,gs1,w2,p1,w1]
     rw[wZ,if_pos hp]
     by_cases hm:c.most≤S.out.length
     · rw[if_pos hm]
       have hl:=zF (c:=c) (S:={S with at_:=S.at_+8}) (u0 c.text S.at_ 8) he hm
       obtain⟨e',q⟩:=xh p2 n (.inr (by rw[hl];decide))
       exact⟨e',h2,ov2,_,sP step q,p2,k3.trans p3,hl,by decide⟩
     · rw[if_neg hm]
       rw[B0 (S:={S with at_:=S.at_+8}) _ he hm]at p2
       obtain⟨e',h',ov',S',q1,q2,q3,q4⟩:=AL n _ h2 ov2 p2 rfl (by omega)
       exact⟨e',h',ov',S',sP step q1,q2,(k3.trans p3).trans q3,q4⟩
   · have eg:uV c 8 S=(0,{S with e:=700}):=by rw[uV,if_neg hp,vi,if_pos he]
     rw[eg]at k1 k2 gs1
     dsimp only at k1 k2 gs1
     have step:aK (aQ AP.A) bA AP.f39L0 (ax [(0,.aC c.s 0),(2,I (n+1:Nat))] [0,2]) h=some (.normal,[(0,.aC c.s 0),(2,I n)],h1):=by
      simp only[I]at *
      simp only[AP.f39L0,go_sem,Qq c1,gs,he,k1,gs1,w1]
     rw[wZ,if_neg hp]
     obtain⟨e',q⟩:=xh k2 n (.inr (by simp))
     exact⟨e',h1,ov,_,sP step q,k2,k3,rfl,by decide⟩
def yD (t:ByteArray) (most:Int) (p0:Nat) (out:List Nat):Rs:=
 let p:=(p0+7)/8* 8
 if p+32≤8* t.size then(if u0 t p 16+u0 t (p+16) 16=65535 then wZ t most (u0 t p 16) (p+32) out else .error 700)else .error 700
theorem GW {n:Nat} (hn:n<65536):bits .xor .i64 (n:Int) 65535=((65535-n:Nat):Int):=by
 have h1:n<2^16:=by simpa using hn
 show IntKind.wrap .i64 (((BitVec.ofInt 64 (n:Int)^^^BitVec.ofInt 64 ((65535:Nat):Int)).toNat:Nat):Int)=_
 rw[BitVec.toNat_xor,wA 64 n (by omega),wA 64 65535 (by omega)]
 have h2:n^^^65535=65535-n:=by
  have:65535-n=2^16-(n+1):=by omega
  rw[this]
  apply Nat.eq_of_testBit_eq
  intro i
  rw[Nat.testBit_two_pow_sub_succ h1,Nat.testBit_xor,show 65535=2^16-1 from rfl,Nat.testBit_two_pow_sub_one]
  by_cases hi:i<16
  · simp [hi]
  · have:n.testBit i=false:=Nat.testBit_lt_two_pow (Nat.lt_of_lt_of_le h1 (QA (by omega) (by omega)))
    simp [hi,this]
 rw[h2];exact uS (by omega)
theorem St.align {c:SC} {S:SS} {h:H} {ov:AV} (st:St c S h ov):∃h',aQ AP.A 16 [.aC c.r 0] h=some (I 0,h')∧St c {S with at_:=(S.at_+7)/8* 8} h' ov∧Fr c h ov h' ov:=by
 have hle:=st.xD
 have:=st.Mw (p:=(S.at_+7)/8* 8) (by omega)
 exact⟨_,G0 h c.r c.text S.at_ st.gr st.fr st.sz st.xD,this.1,this.2⟩
theorem GK {c : SC} {S : SS} {h : H} {ov : AV} (st : St c S h ov) (he : S.e = 0) :
 ∃h' ov' S',aQ AP.A 39 [.aC c.s 0] h=some (.bO [],h')∧St c S' h' ov'∧Fr c h ov h' ov'∧Fin (yD c.text c.most S.at_ S.out) S':=by
 have gs:=st.gs
 obtain⟨h1,a1,a2,a3⟩:=st.align
 obtain⟨p,hp⟩:∃p,p=(S.at_+7)/8* 8:=⟨_,rfl⟩
 rw[←hp]at a2
 have hS:yD c.text c.most S.at_ S.out=if p+32≤8* c.text.size then(if u0 c.text p 16+u0 c.text (p+16) 16=65535 then wZ c.text c.most (u0 c.text p 16) (p+32) S.out else .error 700)else .error 700:=by
  rw[hp];rfl
 rw[hS];clear hS
 obtain⟨h2,b1,b2,b3⟩:=xJ a2 16 16 rfl (by omega)
 obtain⟨h3,d1,d2,d3⟩:=xJ b2 16 16 rfl (by omega)
 obtain⟨n,hn⟩:∃n,n=(uV c 16 {S with at_:=p}).1:=⟨_,rfl⟩
 obtain⟨S2,hS2⟩:∃n,n=(uV c 16 {S with at_:=p}).2:=⟨_,rfl⟩
 obtain⟨m,hm⟩:∃n,n=(uV c 16 S2).1:=⟨_,rfl⟩
 obtain⟨S3,hS3⟩:∃n,n=(uV c 16 S2).2:=⟨_,rfl⟩
 rw[←hn]at b1;rw[←hS2]at b2 d1 d2;rw[←hm]at d1;rw[←hS3]at d2
 have hn16:n<65536:=by
  rw[hn];unfold uV;split
  · simpa using vX c.text p 16
  · simp
 have x1:=GW hn16
 by_cases hx:m=65535-n
 · have c1:((m:Int) !=((65535-n:Nat):Int))=false:=tJ (by omega)
   have fin:∀e' h',Lp AP.A [0,2] AP.f39L0 [(0,.aC c.s 0),(2,I n)] h3=some (.exit 0,e',h')→aQ AP.A 39 [.aC c.s 0] h=some (.bO [],h'):=by
    intro e' h' q
    refine wy (fn:=AP.f39) (e:=[]) rfl rfl rfl ?_ rfl
    simp only[I]at *
    simp only[AP.f39,go_sem,rH,gs,a1,b1,d1,x1,c1,q]
   by_cases h32:p+32≤8* c.text.size
   · have e2:uV c 16 {S with at_:=p}=(u0 c.text p 16,{S with at_:=p+16}):=by rw[uV,if_pos (by show p+16≤_;omega)]
     rw[e2]at hn hS2;dsimp only at hn hS2;subst hS2
     have e3:uV c 16 {S with at_:=p+16}=(u0 c.text (p+16) 16,{S with at_:=p+16+16}):=by rw[uV,if_pos (by show p+16+16≤_;omega)]
     rw[e3]at hm hS3;dsimp only at hm hS3;subst hS3
     rw[if_pos h32,←hn,←hm,if_pos (by omega)]
     obtain⟨e',h',ov',S',q1,q2,q3,q4⟩:=AL n _ h3 ov d2 he (by omega)
     exact⟨h',ov',S',fin e' h' q1,q2,((a3.trans b3).trans d3).trans q3,q4⟩
   · rw [if_neg h32]
     have he3:S3.e=700:=by
      rw[hS3,hS2]
      unfold uV
      by_cases q1:p+16≤8* c.text.size
      · simp only[if_pos q1]
        rw[if_neg (by omega)];simp [vi,he]
      · simp only[if_neg q1,vi,he,if_true]
        split<;>simp
     obtain⟨e',q⟩:=xh d2 n (.inr (by rw[he3];decide))
     exact⟨h3,ov,S3,fin e' h3 q,d2,(a3.trans b3).trans d3,he3,by decide⟩
 · have c1:((m:Int) !=((65535-n:Nat):Int))=true:=tK (by omega)
   obtain⟨h4,f1,f2,f3⟩:=wx d2 700
   have he4:(vi 700 S3).e=700:=by
    have:S3.e=0∨S3.e=700:=by
     rw[hS3,hS2]
     unfold uV
     by_cases q1:p+16≤8* c.text.size
     · simp only[if_pos q1]
       split<;>simp [vi,he]
     · simp only[if_neg q1,vi,he,if_true]
       split<;>simp
    rcases this with q|q<;>simp [vi,q]
   obtain⟨e',q⟩:=xh f2 n (.inr (by rw[he4];decide))
   refine⟨h4,ov,vi 700 S3, ?_,f2,((a3.trans b3).trans d3).trans f3, ?_⟩
   · refine wy (fn:=AP.f39) (e:=[]) rfl rfl rfl ?_ rfl
     simp only[I]at *
     simp only[AP.f39,go_sem,rH,gs,a1,b1,d1,x1,c1,f1,q]
   · by_cases h32:p+32≤8* c.text.size
     · have e2:uV c 16 {S with at_:=p}=(u0 c.text p 16,{S with at_:=p+16}):=by rw[uV,if_pos (by show p+16≤_;omega)]
       rw[e2]at hn hS2;dsimp only at hn hS2;subst hS2
       have e3:uV c 16 {S with at_:=p+16}=(u0 c.text (p+16) 16,{S with at_:=p+16+16}):=by rw[uV,if_pos (by show p+16+16≤_;omega)]
       rw[e3]at hm hS3;dsimp only at hm hS3
       rw[if_pos h32,←hn,←hm,if_neg (by omega)]
       exact⟨he4,by decide⟩
     · rw[if_neg h32];exact⟨he4,by decide⟩
def zN (most:Int) (d:Nat):Nat→List Nat→Except Int (List Nat)
 |0,out=>.ok out
 |n+1,out=>if most≤out.length then .error 701 else zN most d n (out++[out.getD (out.length-d) 0])
def PN (l:List Nat):Prop:=∀b∈l,b<256
theorem xH {c:SC} {S:SS} {h:H} {ov:AV} (st:St c S h ov) (n d:Nat) (hs:n=0∨S.e≠0):
 ∃e',Lp AP.A [0,6,8] AP.f61L0 [(0,.aC c.s 0),(6,I n),(8,I d)] h=some (.exit 0,e',h):=by
 have gs:=st.gs
 refine⟨[(0,.aC c.s 0),(6,I n),(8,I d),(53,.bool false)],sN ?_⟩
 by_cases hn:n=0
 · have c1:¬(0:Int)<n:=by omega
   simp only[I]at *
   simp only[AP.f61L0,go_sem,Qn c1]
 · have c1:(0:Int)<n:=by omega
   have c2:(S.e==0)=false:=tH (by omega)
   simp only[I]at *
   simp only[AP.f61L0,go_sem,Qq c1,gs,c2]
theorem mW.elem {h:H} {v:AV} {cs:List AV} (o:mW h v cs) {i:Nat} {x:AV} (hx:cs[i]?=some x):∃id,v=.aD id 0 cs.length 1∧fM 1 v (I i)=some (.aC id i)∧h.get id=some cs:=by
 have hi:i<cs.length:=(uk.1 hx).1
 rcases o with ⟨rfl,rfl⟩|⟨id,rfl,h1,_⟩
 · simp at hi
 · exact⟨id,rfl,by simp [fM,kf hi],h1⟩
theorem Hk {l:List Nat} {i:Nat} (h:i<l.length):(yt l)[i]?=some (.int .u8 (l.getD i 0:Nat)):=by
 simp [yt,uC,h,List.getD]
theorem Bb {c:SC} (d:Nat) (hd:0<d):∀(n:Nat) (S:SS) (h:H) (ov:AV),St c S h ov→S.e=0→d≤S.out.length→n≤65535→
 ∃ e' h' ov' S', Lp AP.A [0, 6, 8] AP.f61L0 [(0, .aC c.s 0), (6, I n), (8, I d)] h = some (.exit 0, e', h') ∧ St c S' h' ov' ∧ Fr c h ov h' ov' ∧ match zN c.most d n S.out with
   | .ok o=>S'={S with out:=o}
   | .error k=>S'.e=k∧k≠0
 | 0, S, h, ov, st, he, hl, hn => by
   obtain⟨e',q⟩:=xH st 0 d (.inl rfl)
   exact⟨e',h,ov,S,q,st,Fr.refl _ _ _,by simp only[zN]⟩
 | n + 1, S, h, ov, st, he, hl, hn => by
   have gs:=st.gs
   have hol:=st.ol
   have hml:=st.ml
   have ln:=st.own.len
   rw[xP]at ln
   have c1:(0:Int)<((n+1:Nat):Int):=by omega
   have w1:IntKind.wrap .i64 (((n+1:Nat):Int)-1)=(n:Int):=by rw[show((n+1:Nat):Int)-1=(n:Int)by omega];exact uS (by omega)
   have w2:IntKind.wrap .i64 ((S.out.length:Int)-d)=((S.out.length-d:Nat):Int):=by rw[show(S.out.length:Int)-d=((S.out.length-d:Nat):Int)by omega];exact uS (by omega)
   have hb:=Hk (l:=S.out) (i:=S.out.length-d) (by omega)
   obtain⟨id,i1,i2,i3⟩:=st.own.elem hb
   obtain⟨h2,ov2,p1,p2,p3⟩:=Gk st (b:=S.out.getD (S.out.length-d) 0)
   have step:aK (aQ AP.A) bA AP.f61L0 (ax [(0,.aC c.s 0),(6,I (n+1:Nat)),(8,I d)] [0,6,8]) h=some (.normal,[(0,.aC c.s 0),(6,I n),(8,I d)],h2):=by
    clear i1
    simp only[I]at *
    simp only[AP.f61L0,go_sem,Qq c1,gs,he,ln,w2,i2,i3,hb,p1,w1]
   rw[zN]
   by_cases hm:c.most≤S.out.length
   · rw[if_pos hm]
     have hl:=zF (c:=c) (S:=S) (S.out.getD (S.out.length-d) 0) he hm
     obtain⟨e',q⟩:=xH p2 n d (.inr (by rw[hl];decide))
     exact⟨e',h2,ov2,_,sP step q,p2,p3,hl,by decide⟩
   · rw[if_neg hm]
     rw[B0 _ he hm]at p2
     obtain⟨e',h',ov',S',q1,q2,q3,q4⟩:=Bb d hd n _ h2 ov2 p2 rfl (by simp;omega) (by omega)
     refine⟨e',h',ov',S',sP step q1,q2,p3.trans q3, ?_⟩
     dsimp only at q4 ⊢
     rw[he]
     exact q4
def zM (t : ByteArray) (most : Int) (dl : List Int) (y : Nat) (p : Nat) (out : List Nat) : Rs :=
 match lenOf y with
 |none=>.error 700
 | some (least, extra) =>
   if p+extra≤8* t.size then
    match yG t dl 15 1 0 (p+extra)with
    |none=>.error 700
    | some (z, p2) => match xz z.toNat with
      |none=>.error 700
      | some (ld, xd) =>
        if p2+xd≤8* t.size∧ld+u0 t p2 xd≤out.length then
         (match zN most (ld+u0 t p2 xd) (least+u0 t p extra) out with
         | .ok o=>.ok (p2+xd,o)
         | .error k=>.error k)
        else .error 700
   else .error 700
theorem GO {l:List Int} {n:Nat} {y:Int} (h:y∈syms l n):0≤y∧y<l.length:=by
 unfold syms at h
 split at h
 · cases h
 · rw[List.mem_filterMap]at h
   obtain⟨q,hq,h⟩:=h
   split at h
   · obtain rfl:=ue h
     have:=List.mem_zipIdx hq
     omega
   · cases h
theorem FG {l:List Int} {n:Nat} {v y:Int} (h:xI l n v=some y):0≤y∧y<l.length:=by
 unfold xI at h
 split at h
 · exact GO (ux h)
 · cases h
theorem xy {t : ByteArray} {l : List Int} : ∀ {k n v p : Nat} {y : Int} {p2 : Nat}, yG t l k n v p = some (y, p2) → 0 ≤ y ∧ y < l.length ∧ p < p2 ∧ p2 ≤ 8 * t.size
 |0,_,_,_,_,_,h=>by cases h
 | k + 1, n, v, p, y, p2, h => by
   rw[yG]at h
   split at h
   · split at h
     · rename_i hf
       obtain⟨rfl,rfl⟩:=ug (ue h)
       have:=FG hf
       omega
     · have:=xy h
       omega
   · cases h
theorem Fv {c : SC} {S : SS} {h : H} {ov : AV} (dl : List Int) (hdl : dl.length < 100000) (st : St c S h ov) (he : S.e = 0) (y : Nat) (hy : y < 100000) :
 ∃h' ov' S',aQ AP.A 61 [.aC c.s 0,I y,vg dl] h=some (.bO [],h')∧St c S' h' ov'∧Fr c h ov h' ov'∧Fin (zM c.text c.most dl y S.at_ S.out) S':=by
 have lo:=HH h y (by omega)
 unfold zM
 cases hlo:lenOf y with
 | none =>
   rw[hlo]at lo
   obtain⟨h1,S1,k1,k2,k3,k4⟩:=BB st he
   have gs1:=k2.gs
   have c1:(S1.e !=0)=true:=tK (by omega)
   refine⟨h1,ov,S1, ?_,k2,k3,k4,by decide⟩
   refine ta (fn:=AP.f61) (e:=[(0,.aC c.s 0),(2,vg dl),(6,I 0),(20,.bool true)]) (vs:=[]) rfl rfl rfl ?_ rfl
   simp only[I,Dh]at *
   simp only[AP.f61,go_sem,lo,k1,gs1,c1]
 | some le =>
   obtain⟨least,extra⟩:=le
   rw[hlo]at lo
   obtain⟨b1,b2,b3⟩:=FT hlo
   obtain⟨h1,k1,k2,k3⟩:=Eg st (n:=extra) (least:=least) (by omega) (by omega)
   dsimp only
   by_cases hp:S.at_+extra≤8* c.text.size
   · have eg : uV c extra S = (u0 c.text S.at_ extra, { S with at_ := S.at_ + extra }) := by rw [uV, if_pos hp]
     rw[eg]at k1 k2
     dsimp only at k1 k2
     rw[if_pos hp]
     have gs1:=k2.gs
     have hve:=vX c.text S.at_ extra
     have hve2:2^extra≤2^5:=QA (by omega) b2
     obtain⟨h2,S2,z,s1,s2,s3,s4⟩:=AN dl hdl k2 he
     have gs2:=s2.gs
     have c1:(S.e !=0)=false:=tJ he
     dsimp only at s4 gs1
     cases hz:yG c.text dl 15 1 0 (S.at_+extra)with
     | none =>
       rw[hz]at s4
       obtain⟨s4,s5⟩:=s4
       have c2:(S2.e !=0)=true:=tK (by omega)
       refine⟨h2,ov,S2, ?_,s2,k3.trans s3,s4,by decide⟩
       refine ta (fn:=AP.f61) (e:=[(0,.aC c.s 0),(6,I (least+u0 c.text S.at_ extra:Nat)),(7,I z),(28,.bool true)]) (vs:=[]) rfl rfl rfl ?_ rfl
       simp only[I,Dh]at *
       simp only[AP.f61,go_sem,lo,k1,gs1,c1,s1,gs2,c2]
     | some zp =>
       obtain⟨z2,p2⟩:=zp
       rw[hz]at s4
       obtain⟨s4,s5⟩:=s4
       subst s5 s4
       have zb:=xy hz
       obtain⟨zn,hzn⟩:∃n:Nat,z=n:=QJ zb.1
       subst hzn
       have dob:=Fz h2 zn (by omega)
       have c2:(S.e !=0)=false:=tJ he
       dsimp only at gs2 ⊢
       rw[Int.toNat_natCast]
       cases hdo:xz zn with
       | none =>
         rw[hdo]at dob
         obtain⟨h3,S3,v1,v2,v3,v4⟩:=BB s2 he
         have gs3:=v2.gs
         have ln:=v2.own.len
         rw[xP]at ln
         have hn0:¬((S3.out.length:Int)<0):=by omega
         obtain⟨e',q⟩:=xH v2 (least+u0 c.text S.at_ extra) 0 (.inr (by rw[v4];decide))
         refine⟨h3,ov,S3, ?_,v2,(k3.trans s3).trans v3,v4,by decide⟩
         refine wy (fn:=AP.f61) (e:=[]) (vs:=[]) rfl rfl rfl ?_ rfl
         have q':Lp AP.A [0,6,8] AP.f61L0 [(0,.aC c.s 0),(6,I (least+u0 c.text S.at_ extra:Nat)),(8,I 0)] h3=some (.exit 0,e',h3):=q
         clear q
         simp only[I,Dh]at *
         simp only[AP.f61,go_sem,rH,lo,k1,gs1,c1,s1,gs2,c2,dob,v1,gs3,ln,Qn hn0,q']
       | some lx =>
         obtain⟨ld,xd⟩:=lx
         rw[hdo]at dob
         obtain⟨d1,d2,d3⟩:=EB hdo
         obtain⟨h3,v1,v2,v3⟩:=Eg s2 (n:=xd) (least:=ld) (by omega) (by omega)
         obtain⟨x,hx⟩:∃x,x=(uV c xd {S with at_:=p2}).1:=⟨_,rfl⟩
         obtain⟨S3,hS3⟩:∃x,x=(uV c xd {S with at_:=p2}).2:=⟨_,rfl⟩
         rw[←hx]at v1;rw[←hS3]at v2
         have ho3:S3.out=S.out:=by rw[hS3];unfold uV;split<;>simp [vi];split<;>rfl
         have gs3:=v2.gs
         have ln:=v2.own.len
         rw[xP]at ln
         dsimp only
         by_cases hbk:S3.out.length<ld+x
         · have hbk':(S3.out.length:Int)<((ld+x:Nat):Int):=by omega
           obtain⟨h4,f1,f2,f3⟩:=wx v2 700
           have he4:(vi 700 S3).e=700:=by
            have:S3.e=0∨S3.e=700:=by
             rw[hS3];unfold uV;split
             · exact .inl he
             · right;simp [vi,he]
            rcases this with q|q<;>simp [vi,q]
           have hneg:¬(p2+xd≤8* c.text.size∧ld+u0 c.text p2 xd≤S.out.length):=by
            intro ⟨q1,q2⟩
            have:uV c xd {S with at_:=p2}=(u0 c.text p2 xd,{S with at_:=p2+xd}):=by rw[uV,if_pos q1]
            rw[this]at hx;dsimp only at hx;rw[ho3]at hbk;omega
           rw[if_neg hneg]
           obtain⟨e',q⟩:=xH f2 (least+u0 c.text S.at_ extra) (ld+x) (.inr (by rw[he4];decide))
           refine⟨h4,ov,vi 700 S3, ?_,f2,((k3.trans s3).trans v3).trans f3,he4,by decide⟩
           refine wy (fn:=AP.f61) (e:=[]) (vs:=[]) rfl rfl rfl ?_ rfl
           simp only[I,Dh]at *
           simp only[AP.f61,go_sem,rH,lo,k1,gs1,c1,s1,gs2,c2,dob,v1,gs3,ln,Qq hbk',f1,q]
         · have hbk':¬(S3.out.length:Int)<((ld+x:Nat):Int):=by omega
           have fin:∀e' h',Lp AP.A [0,6,8] AP.f61L0 [(0,.aC c.s 0),(6,I (least+u0 c.text S.at_ extra:Nat)),(8,I (ld+x:Nat))] h3=some (.exit 0,e',h')→aQ AP.A 61 [.aC c.s 0,I y,vg dl] h=some (.bO [],h'):=by
            intro e' h' q
            refine wy (fn:=AP.f61) (e:=[]) (vs:=[]) rfl rfl rfl ?_ rfl
            simp only[I,Dh]at *
            simp only[AP.f61,go_sem,rH,lo,k1,gs1,c1,s1,gs2,c2,dob,v1,gs3,ln,Qn hbk',q]
           by_cases hp2:p2+xd≤8* c.text.size
           · have:uV c xd {S with at_:=p2}=(u0 c.text p2 xd,{S with at_:=p2+xd}):=by rw[uV,if_pos hp2]
             rw[this]at hx hS3;dsimp only at hx hS3
             subst hx hS3
             dsimp only at hbk
             rw[if_pos ⟨hp2,by omega⟩]
             obtain⟨e',h',ov',S',q1,q2,q3,q4⟩:=Bb (c:=c) (ld+u0 c.text p2 xd) (by omega) (least+u0 c.text S.at_ extra) _ h3 ov v2 he (by dsimp only;omega) (by omega)
             refine⟨h',ov',S',fin e' h' q1,q2,((k3.trans s3).trans v3).trans q3, ?_⟩
             dsimp only at q4
             cases hcl:zN c.most (ld+u0 c.text p2 xd) (least+u0 c.text S.at_ extra) S.out with
             |ok o=>rw[hcl]at q4;rw[he]at q4;exact q4
             |error k=>rw[hcl]at q4;exact q4
           · rw[if_neg (fun q=>hp2 q.1)]
             have he3:S3.e=700:=by
              rw[hS3,uV,if_neg hp2];simp [vi,he]
             obtain⟨e',q⟩:=xH v2 (least+u0 c.text S.at_ extra) (ld+x) (.inr (by rw[he3];decide))
             exact⟨h3,ov,S3,fin e' h3 q,v2,(k3.trans s3).trans v3,he3,by decide⟩
   · have eg:uV c extra S=(0,{S with e:=700}):=by rw[uV,if_neg hp,vi,if_pos he]
     rw[eg]at k1 k2
     dsimp only at k1 k2
     rw[if_neg hp]
     have gs1:=k2.gs
     refine⟨h1,ov,_, ?_,k2,k3,rfl,by decide⟩
     refine ta (fn:=AP.f61) (e:=[(0,.aC c.s 0),(2,vg dl),(6,I (least+0:Nat)),(20,.bool true)]) (vs:=[]) rfl rfl rfl ?_ rfl
     simp only[I,Dh]at *
     simp only[AP.f61,go_sem,lo,k1,gs1]
def xg (t : ByteArray) (most : Int) (ll dl : List Int) : Nat → Nat → List Nat → Rs
 |0,_,_=>.error 700
 | k + 1, p, out => match yG t ll 15 1 0 p with
   |none=>.error 700
   | some (y, p1) =>
     if y<256 then(if most≤out.length then .error 701 else xg t most ll dl k p1 (out++[y.toNat]))
     else if y=256 then .ok (p1,out)
     else match zM t most dl y.toNat p1 out with
      | .ok (p2,o)=>xg t most ll dl k p2 o
      | .error e=>.error e
theorem CD {t : ByteArray} {most : Int} {dl : List Int} {y p : Nat} {out o : List Nat} {p2 : Nat} (h : zM t most dl y p out = .ok (p2, o)) : p ≤ p2 ∧ p2 ≤ 8 * t.size := by
 unfold zM at h
 split at h
 · cases h
 · split at h
   · split at h
     · cases h
     · rename_i hs
       have:=xy hs
       split at h
       · cases h
       · split at h
         · rename_i hq
           split at h
           · have:=QN (fun r:Rs=>match r with| .ok q=>q.1|_=>0) h
             dsimp only at this
             omega
           · cases h
         · cases h
   · cases h
theorem Ai {c:SC} {S:SS} {h:H} {ov:AV} (st:St c S h ov) (a b:AV) (hs:S.e≠0):
 ∃e',Lp AP.A [0,1,2] AP.f40L0 [(0,.aC c.s 0),(1,a),(2,b)] h=some (.exit 0,e',h):=by
 have gs:=st.gs
 refine⟨[(0,.aC c.s 0),(1,a),(2,b),(11,.bool false)],sN ?_⟩
 have c2:(S.e==0)=false:=tH hs
 simp only[I]at *
 simp only[AP.f40L0,go_sem,gs,c2]
theorem yP {c : SC} (ll dl : List Int) (hll : ll.length < 100000) (hdl : dl.length < 100000) : ∀ (k : Nat) (S : SS) (h : H) (ov : AV), St c S h ov → S.e = 0 → 8 * c.text.size < S.at_ + k →
 ∃e' h' ov' S',(Lp AP.A [0,1,2] AP.f40L0 [(0,.aC c.s 0),(1,vg ll),(2,vg dl)] h=some (.ret,e',h')∨Lp AP.A [0,1,2] AP.f40L0 [(0,.aC c.s 0),(1,vg ll),(2,vg dl)] h=some (.exit 0,e',h'))∧St c S' h' ov'∧Fr c h ov h' ov'∧Fin (xg c.text c.most ll dl k S.at_ S.out) S'
 |0,S,h,ov,st,he,hk=>by have:=st.xD;omega
 | k + 1, S, h, ov, st, he, hk => by
   have gs:=st.gs
   obtain⟨h1,S1,z,s1,s2,s3,s4⟩:=AN ll hll st he
   rw[xg]
   cases hz:yG c.text ll 15 1 0 S.at_ with
   | none =>
     rw[hz]at s4
     obtain⟨s4,s5⟩:=s4
     subst s5
     refine⟨[(0,.aC c.s 0),(1,vg ll),(2,vg dl),(6,I 256),(26,.bool true)],h1,ov,S1,.inl (tk ?_),s2,s3,s4,by decide⟩
     simp only[I]at *
     simp only[AP.f40L0,go_sem,gs,he,s1]
   | some zp =>
     obtain⟨z2,p1⟩:=zp
     rw[hz]at s4
     obtain⟨s4,s5⟩:=s4
     subst s5 s4
     have zb:=xy hz
     obtain⟨y,hy⟩:∃n:Nat,z=n:=QJ zb.1
     subst hy
     dsimp only
     by_cases c1:(y:Int)<256
     · rw[if_pos c1]
       have w1:IntKind.wrap .u8 (y:Int)=y:=wrap_u8 (by omega)
       obtain⟨h2,ov2,p1',p2',p3'⟩:=Gk s2 (b:=y)
       have step:aK (aQ AP.A) bA AP.f40L0 (ax [(0,.aC c.s 0),(1,vg ll),(2,vg dl)] [0,1,2]) h=some (.normal,[(0,.aC c.s 0),(1,vg ll),(2,vg dl)],h2):=by
        simp only[I]at *
        simp only[AP.f40L0,go_sem,gs,he,s1,Qq c1,w1,p1']
       by_cases hm:c.most≤S.out.length
       · rw[if_pos hm]
         have hl:=zF (c:=c) (S:={S with at_:=p1}) y he hm
         obtain⟨e',q⟩:=Ai p2' (vg ll) (vg dl) (by rw[hl];decide)
         exact⟨e',h2,ov2,_,.inr (sP step q),p2',s3.trans p3',hl,by decide⟩
       · rw[if_neg hm]
         rw[B0 (S:={S with at_:=p1}) _ he hm]at p2'
         obtain⟨e',h',ov',S',q1,q2,q3,q4⟩:=yP ll dl hll hdl k _ h2 ov2 p2' rfl (by dsimp only;omega)
         refine⟨e',h',ov',S', ?_,q2,(s3.trans p3').trans q3,q4⟩
         rcases q1 with q1|q1
         · exact .inl (sP step q1)
         · exact .inr (sP step q1)
     · rw [if_neg c1]
       by_cases c2:(y:Int)=256
       · rw[if_pos c2]
         refine⟨[(0,.aC c.s 0),(1,vg ll),(2,vg dl),(6,I y),(26,.bool true)],h1,ov,_,.inl (tk ?_),s2,s3, ?_⟩
         · have c2':=tI c2
           simp only[I]at *
           simp only[AP.f40L0,go_sem,gs,he,s1,Qn c1,c2']
         · simp only[Fin];rw[he]
       · rw[if_neg c2]
         have c2':=tH c2
         obtain⟨h2,ov2,S2,r1,r2,r3,r4⟩:=Fv dl hdl s2 he y (by omega)
         have step:aK (aQ AP.A) bA AP.f40L0 (ax [(0,.aC c.s 0),(1,vg ll),(2,vg dl)] [0,1,2]) h=some (.normal,[(0,.aC c.s 0),(1,vg ll),(2,vg dl)],h2):=by
          simp only[I]at *
          simp only[AP.f40L0,go_sem,gs,he,s1,Qn c1,c2',r1]
         dsimp only at r4
         rw[Int.toNat_natCast]
         cases hc:zM c.text c.most dl y p1 S.out with
         | error q =>
           rw[hc]at r4
           obtain⟨e',q'⟩:=Ai r2 (vg ll) (vg dl) (by rw[r4.1];exact r4.2)
           exact⟨e',h2,ov2,S2,.inr (sP step q'),r2,s3.trans r3,r4⟩
         | ok q =>
           obtain⟨p2,o⟩:=q
           rw[hc]at r4
           simp only[Fin]at r4
           subst r4
           have hge:=CD hc
           obtain⟨e',h',ov',S',q1,q2,q3,q4⟩:=yP ll dl hll hdl k _ h2 ov2 r2 rfl (by dsimp only;omega)
           refine⟨e',h',ov',S', ?_,q2,(s3.trans r3).trans q3,q4⟩
           rcases q1 with q1|q1
           · exact .inl (sP step q1)
           · exact .inr (sP step q1)
theorem DL {c:SC} {S:SS} {h:H} {ov:AV} (ll dl:List Int) (hll:ll.length<100000) (hdl:dl.length<100000) (st:St c S h ov) (he:S.e=0):
 ∃h' ov' S',aQ AP.A 40 [.aC c.s 0,vg ll,vg dl] h=some (.bO [],h')∧St c S' h' ov'∧Fr c h ov h' ov'∧Fin (xg c.text c.most ll dl (8* c.text.size+1) S.at_ S.out) S':=by
 obtain⟨e',h',ov',S',q1,q2,q3,q4⟩:=yP ll dl hll hdl (8* c.text.size+1) S h ov st he (by omega)
 refine⟨h',ov',S', ?_,q2,q3,q4⟩
 rcases q1 with q1|q1
 · refine ta (fn:=AP.f40) (e:=e') (vs:=[]) rfl rfl rfl ?_ rfl
   simp only[AP.f40,go_sem,rH,q1]
 · refine wy (fn:=AP.f40) (e:=[]) (vs:=[]) rfl rfl rfl ?_ rfl
   simp only[AP.f40,go_sem,rH,q1]
theorem vk (h:H):∀id c,h.get id=some c→h.dU.get id=some c:=fun _ _ q=>q
def Ap (P:AV→Bool):List AV→Nat→Int
 |[],_=> -1
 |v::r,i=>if P v then(i:Int)else Ap P r (i+1)
theorem CJ (P:AV→Bool):∀(l:List AV) (i:Nat),(0≤Ap P l i)↔l.any P=true
 |[],i=>by simp [Ap]
 | v :: r, i => by
   rw[Ap]
   by_cases h:P v
   · rw[if_pos h];simp [h]
   · rw[if_neg h,CJ P r];simp [h]
theorem Aq {x fv : AV} {cs : List AV} (P : AV → Bool) (hP : ∀ v ∈ cs, ∀ g : H, kk (aQ AP.A) [v] g fv = some (.bool (P v), g)) (hl : cs.length < 1000000000) (h : H) (rd : Rd h x cs) :
 ∀ (m i : Nat), m + i = cs.length → (∃ e', Lp AP.A [0, 1, 7, 8] AP.f84L0 [(0, x), (1, fv), (7, I cs.length), (8, I i)] h = some (.exit 0, e', h) ∧ Ap P (cs.drop i) i = -1) ∨
   ∃e',Lp AP.A [0,1,7,8] AP.f84L0 [(0,x),(1,fv),(7,I cs.length),(8,I i)] h=some (.ret,e',h)∧look e' 4=I (Ap P (cs.drop i) i)
 | 0, i, hm => by
   left
   refine⟨[(0,x),(1,fv),(7,I cs.length),(8,I i),(9,.bool false)],sN ?_,by rw[List.drop_eq_nil_of_le (by omega)];rfl⟩
   have c1:¬(i:Int)<(cs.length:Int):=by omega
   simp only[I]at *
   simp only[AP.f84L0,go_sem,Qn c1]
 | m + 1, i, hm => by
   have hi:i<cs.length:=by omega
   obtain⟨v,hv⟩:∃v,cs[i]?=some v:=⟨_,QD hi⟩
   have hd:cs.drop i=v::cs.drop (i+1):=by
    rw[List.drop_eq_getElem_cons hi];rw[QD hi]at hv;rw[ue hv]
   obtain⟨p,p1,p2⟩:=rd.elem hv
   have p3:=p2 h (fun _ _ q=>q)
   have c1:(i:Int)<(cs.length:Int):=by omega
   have hPv:=hP v (ux hv) h
   have w1:IntKind.wrap .i64 ((i:Int)+1)=((i+1:Nat):Int):=uS (n:=i+1) (by omega)
   rw[hd,Ap]
   cases hb:P v with
   | true =>
     right
     rw[hb]at hPv
     rw[if_pos rfl]
     refine⟨[(4,I i)],tk ?_,rfl⟩
     simp only[I]at *
     simp only[AP.f84L0,go_sem,Qq c1,p1,p3,hPv]
   | false =>
     rw[hb]at hPv
     have step:aK (aQ AP.A) bA AP.f84L0 (ax [(0,x),(1,fv),(7,I cs.length),(8,I i)] [0,1,7,8]) h=some (.normal,[(0,x),(1,fv),(7,I cs.length),(8,I (i+1:Nat))],h):=by
      simp only[I]at *
      simp only[AP.f84L0,go_sem,Qq c1,p1,p3,hPv,w1]
     rw[if_neg (by decide)]
     rcases Aq P hP hl h rd m (i+1) (by omega)with ⟨e',q1,q2⟩|⟨e',q1,q2⟩
     · exact .inl ⟨e',sP step q1,q2⟩
     · exact .inr ⟨e',sP step q1,q2⟩
theorem HC {x fv:AV} {cs:List AV} (P:AV→Bool) (hP:∀v∈cs,∀g:H,kk (aQ AP.A) [v] g fv=some (.bool (P v),g)) (hl:cs.length<1000000000) (h:H) (rd:Rd h x cs):
 aQ AP.A 84 [x,fv] h=some (I (Ap P cs 0),h):=by
 have rd':=rd.mono (vk h)
 have ln:=rd.len
 rcases Aq P hP hl h.dU rd' cs.length 0 (by omega)with ⟨e',q1,q2⟩|⟨e',q1,q2⟩
 · rw[Qs]at q2
   rw[q2]
   refine tB (fn:=AP.f84) (h2:=h.dU) (e:=[(4,I (-1))]) rfl rfl rfl ?_ rfl rfl
   have q1':Lp AP.A [0,1,7,8] AP.f84L0 [(0,x),(1,fv),(7,I cs.length),(8,I 0)] h.dU=some (.exit 0,e',h.dU):=q1
   clear q1
   simp only[I]at *
   simp only[AP.f84,go_sem,rH,ln,q1']
 · rw[Qs]at q2
   refine tB (fn:=AP.f84) (h2:=h.dU) (e:=e') (vs:=[I (Ap P cs 0)]) rfl rfl rfl ?_ (by simp only[AP.f84,cJ,mP,q2];rfl) rfl
   have q1':Lp AP.A [0,1,7,8] AP.f84L0 [(0,x),(1,fv),(7,I cs.length),(8,I 0)] h.dU=some (.ret,e',h.dU):=q1
   clear q1
   simp only[I]at *
   simp only[AP.f84,go_sem,rH,ln,q1']
theorem yR {x fv:AV} {cs:List AV} (P:AV→Bool) (hP:∀v∈cs,∀g:H,kk (aQ AP.A) [v] g fv=some (.bool (P v),g)) (hl:cs.length<1000000000) (h:H) (rd:Rd h x cs):
 aQ AP.A 83 [x,fv] h=some (.bool (cs.any P),h):=by
 have k1:=HC P hP hl h.dU (rd.mono (vk h))
 have ha:=CJ P cs 0
 refine tB (fn:=AP.f83) (h2:=h.dU) (e:=[(4,.bool (cs.any P))]) rfl rfl rfl ?_ rfl rfl
 cases hb:cs.any P with
 | true =>
   have c1:0≤Ap P cs 0:=ha.2 hb
   simp only[I]at *
   simp only[AP.f83,go_sem,k1,Qq c1]
 | false =>
   have c1:¬0≤Ap P cs 0:=by rw[ha,hb];decide
   simp only[I]at *
   simp only[AP.f83,go_sem,k1,Qn c1]
def Dr (v:AV):Bool:=match v with| .int _ n=>decide (n<0)||decide (15<n)|_=>true
theorem MV (n:Int) (h:H):aQ AP.A 82 [I n] h=some (.bool (Dr (I n)),h):=by
 by_cases c1:n<0
 · refine tB (fn:=AP.f82) (h2:=h.dU) (e:=[(2,.bool true)]) rfl rfl rfl ?_ rfl ?_
   · simp only[I]at *
     simp only[AP.f82,go_sem,Qq c1]
   · simp [Dr,I,c1];rfl
 · refine tB (fn:=AP.f82) (h2:=h.dU) (e:=[(2,.bool (decide (15<n)))]) rfl rfl rfl ?_ rfl ?_
   · simp only[I]at *
     simp only[AP.f82,go_sem,Qn c1]
   · simp [Dr,I,c1];rfl
def CS (l:List Int):Bool:=decide (1≤l.length)&&decide (l.length≤288)&& !((ints l).any Dr)
theorem Oo (h:H) (x:AV) (l:List Int) (hl:l.length<100000) (rd:Rd h x (ints l)):aQ AP.A 81 [x] h=some (.bool (CS l),h):=by
 have hP:∀v∈ints l,∀g:H,kk (aQ AP.A) [v] g (.fn 82 [] [])=some (.bool (Dr v),g):=by
  intro v hv g
  obtain⟨n,_,rfl⟩:=Qy.1 hv
  rw[nr];exact MV n g
 have k1:=yR Dr hP (by simp;omega) h.dU (rd.mono (vk h))
 have ln:=rd.len
 rw[o9]at ln
 refine tB (fn:=AP.f81) (h2:=h.dU) (e:=[(2,.bool (CS l))]) rfl rfl rfl ?_ rfl rfl
 unfold CS
 by_cases c1:1≤l.length
 · have c1':(1:Int)≤(l.length:Int):=by omega
   by_cases c2:l.length≤288
   · have c2':(l.length:Int)≤288:=by omega
     simp only[I]at *
     simp only[AP.f81,go_sem,ln,Qq c1',Qq c2',Qq c1,Qq c2,k1,QB]
   · have c2':¬(l.length:Int)≤288:=by omega
     simp only[I]at *
     simp only[AP.f81,go_sem,ln,Qq c1',Qn c2',Qq c1,Qn c2,QB,Qu]
 · have c1':¬(1:Int)≤(l.length:Int):=by omega
   simp only[I]at *
   simp only[AP.f81,go_sem,ln,Qn c1',Qn c1,Qu]
def vy (l:List Int):Int:=if CS l=false then 300 else if vS l 15<0 then 301 else if 0<vS l 15 then 302 else 0
theorem ER {l:List Int} (h:CS l=true):∀y∈l,0≤y∧y<16:=by
 intro y hy
 simp only[CS,uu,Bool.not_eq_true',List.any_eq_false]at h
 have:=h.2 (I y) (Qy.2 ⟨y,hy,rfl⟩)
 simp [Dr,I]at this
 omega
theorem BH (h : H) (x : AV) (l : List Int) (hl : l.length < 100000) (rd : Rd h x (ints l)) : aQ AP.A 65 [x] h = some (I (vy l), h) := by
 have rd':=rd.mono (vk h)
 have k1:=Oo h.dU x l hl rd'
 unfold vy
 by_cases hm:CS l=true
 · have k2:=yV h.dU x l hl (ER hm) rd'
   have hb:vg l=.aJ (mY 49 (wE l)) 0:=rfl
   have g:(mY 49 (wE l))[48]?=some (I (vS l 15)):=by rw[fK (by omega)];rfl
   rw[hb]at k2
   clear hb
   generalize mY 49 (wE l)=T at k2 g
   rw[hm]at k1 ⊢
   rw[if_neg (by decide)]
   by_cases c1:vS l 15<0
   · rw[if_pos c1]
     refine tB (fn:=AP.f65) (h2:=h.dU) (e:=[(2,I 301)]) rfl rfl rfl ?_ rfl rfl
     simp only[I]at *
     simp only[AP.f65,go_sem,k1,k2,g,Qq c1]
   · rw[if_neg c1]
     by_cases c2:0<vS l 15
     · rw[if_pos c2]
       refine tB (fn:=AP.f65) (h2:=h.dU) (e:=[(2,I 302)]) rfl rfl rfl ?_ rfl rfl
       simp only[I]at *
       simp only[AP.f65,go_sem,k1,k2,g,Qn c1,Qq c2]
     · rw[if_neg c2]
       refine tB (fn:=AP.f65) (h2:=h.dU) (e:=[(2,I 0)]) rfl rfl rfl ?_ rfl rfl
       simp only[I]at *
       simp only[AP.f65,go_sem,k1,k2,g,Qn c1,Qn c2]
 · have hm':CS l=false:=by simpa using hm
   rw[hm']at k1 ⊢
   rw[if_pos rfl]
   refine tB (fn:=AP.f65) (h2:=h.dU) (e:=[(2,I 300)]) rfl rfl rfl ?_ rfl rfl
   simp only[I]at *
   simp only[AP.f65,go_sem,k1]
def MB:List Int→Int→Int
 |[],s=>s
 |x::r,s=>MB r (s+x)
theorem zT {x:AV} {l:List Int} (hl:l.length<100000) (hr:∀y∈l,0≤y∧y<16) (h:H) (rd:Rd h x (ints l)):
 ∀(q p:List Int) (s:Int),l=p++q→0≤s→s≤16* p.length→∃e',Lp AP.A [3,6,7,8] AP.f66L0 [(3,I s),(6,x),(7,I l.length),(8,I p.length)] h=some (.exit 0,e',h)∧look e' 3=I (MB q s)
 | [], p, s, hpq, hs0, hs1 => by
   refine⟨[(3,I s),(6,x),(7,I l.length),(8,I p.length),(9,.bool false)],sN ?_,rfl⟩
   have c1:¬(p.length:Int)<(l.length:Int):=by rw[hpq];simp
   simp only[I]at *
   simp only[AP.f66L0,go_sem,Qn c1]
 | y :: q, p, s, hpq, hs0, hs1 => by
   have hlen:l.length=p.length+(q.length+1):=by rw[hpq];simp
   have c1:(p.length:Int)<(l.length:Int):=by omega
   have hy:=hr y (by rw[hpq];simp)
   have hv:(ints l)[p.length]?=some (I y):=sj (by rw[hpq];simp)
   obtain⟨a,p1,p2⟩:=rd.elem hv
   have p3:=p2 h (fun _ _ q=>q)
   have w1:IntKind.wrap .i64 (s+y)=s+y:=tg (by omega) (by omega)
   have w2:IntKind.wrap .i64 ((p.length:Int)+1)=(((p++[y]).length:Nat):Int):=by
    rw[uN];exact uS (n:=p.length+1) (by omega)
   have step:aK (aQ AP.A) bA AP.f66L0 (ax [(3,I s),(6,x),(7,I l.length),(8,I p.length)] [3,6,7,8]) h=some (.normal,[(3,I (s+y)),(6,x),(7,I l.length),(8,I (p++[y]).length)],h):=by
    simp only[I]at *
    simp only[AP.f66L0,rY,qb,pX,pZ,pY,oA,sD,sC,rZ,r0,sg,sf,rV,rX,rU,rS,rM,rP,rj,rk,px,mZ,mw,mD,kQ,rK,rJ,oE,oF,sH,qJ,sA,qv,oi,ob,Nat.reduceEqDiff,ne_eq,not_false_eq_true,lL,lD,Qq c1,p1,p3,w1,w2]
   obtain⟨e',q1,q2⟩:=zT hl hr h rd q (p++[y]) (s+y) (by rw[hpq];simp) (by omega) (by simp;omega)
   exact⟨e',sP step q1,q2⟩
def xb (l:List Int):Bool:=decide (MB l 0≤1)
theorem GA (h:H) (x:AV) (l:List Int) (hl:l.length<100000) (hr:∀y∈l,0≤y∧y<16) (rd:Rd h x (ints l)):aQ AP.A 66 [x] h=some (.bool (xb l),h):=by
 have rd':=rd.mono (vk h)
 have ln:=rd.len
 rw[o9]at ln
 obtain⟨e',q1,q2⟩:=zT hl hr h.dU rd' l [] 0 rfl (by omega) (by simp)
 have q1':Lp AP.A [3,6,7,8] AP.f66L0 [(3,I 0),(6,x),(7,I l.length),(8,I 0)] h.dU=some (.exit 0,e',h.dU):=q1
 clear q1
 refine tB (fn:=AP.f66) (h2:=h.dU) (e:=[(2,.bool (xb l))]) rfl rfl rfl ?_ rfl rfl
 simp only[I,xb]at *
 simp only[AP.f66,go_sem,rH,ln,q1',q2]
theorem AW {n:Nat} (h:n<18446744073709551616):IntKind.wrap .u64 (n:Int)=n:=by
 have e:IntKind.wrap .u64 (n:Int)=(n:Int)%18446744073709551616:=by simp [IntKind.wrap,IntKind.bits,IntKind.signed]
 rw[e];omega
theorem Ad {a:Nat} (ha:a<4294967296):bits .and .u64 (a:Int) 4294967295=(a:Int):=by
 show IntKind.wrap .u64 (((BitVec.ofInt 64 (a:Int)&&&BitVec.ofInt 64 ((4294967295:Nat):Int)).toNat:Nat):Int)=_
 rw[BitVec.toNat_and,wA 64 a (by omega),wA 64 4294967295 (by omega)]
 rw[show 4294967295=2^32-1 from rfl,Nat.and_two_pow_sub_one_eq_mod,Nat.mod_eq_of_lt (by simpa using ha)]
 exact AW (by omega)
theorem D8 {a:Nat} (ha:a<4294967296):oQ .shr .u64 (a:Int) 32=some (.int .u64 0):=by
 have:(a:Int).fdiv 4294967296=0:=by rw[Int.fdiv_eq_ediv_of_nonneg _ (by omega)];omega
 simp [oQ,IntKind.bits,this]
theorem HL (h:H) (a b:Nat) (ha:a<4294967296) (hb:b<4294967296) (hab:a* b<4294967296):aQ AP.A 78 [.int .u64 a,.int .u64 b] h=some (.bO [.int .u64 0,.int .u64 (a* b:Nat)],h):=by
 have a1:=Ad ha
 have a2:=Ad hb
 have s1:=D8 ha
 have s2:=D8 hb
 have s3:=D8 hab
 have w1:IntKind.wrap .u64 ((a:Int)* b)=((a* b:Nat):Int):=by rw[show(a:Int)* b=((a* b:Nat):Int)by simp];exact AW (by omega)
 have w0:IntKind.wrap .u64 0=0:=by decide
 have z1:(0:Int)* b=0:=by omega
 have z2:(a:Int)* 0=0:=by omega
 have s0:oQ .shr .u64 0 32=some (.int .u64 0):=D8 (a:=0) (by omega)
 have a0:bits .and .u64 0 4294967295=0:=Ad (a:=0) (by omega)
 refine tB (fn:=AP.f78) (h2:=h.dU) (e:=[(4,.int .u64 0),(5,.int .u64 (a* b:Nat))]) rfl rfl rfl ?_ rfl rfl
 simp only[AP.f78,go_sem,a1,a2,s1,s2,s3,w1,w0,z1,z2,s0,a0,Int.zero_mul,Int.add_zero]
theorem Oq (h:H) (a b:Nat) (ha:a<4294967296) (hb:b<4294967296) (hab:a* b<4294967296):aQ AP.A 63 [.int .u64 a,.int .u64 b] h=some (.bO [.int .u64 0,.int .u64 (a* b:Nat)],h):=by
 have k:=HL h.dU a b ha hb hab
 refine tB (fn:=AP.f63) (h2:=h.dU) (e:=[(4,.int .u64 0),(5,.int .u64 (a* b:Nat))]) rfl rfl rfl ?_ rfl rfl
 simp only[AP.f63,go_sem,k]
theorem xw:∀(B V A C:List AV),V.length=B.length→setFrom (A++(B++C)) A.length V=A++(V++C)
 |[],[],A,C,_=>rfl
 | b :: B, v :: V, A, C, h => by
   rw[oP]
   have h1:(A++(b::B++C)).set A.length v=(A++[v])++(B++C):=by
    rw[List.set_append_right _ _ (ur _)];simp
   rw[h1]
   have h2:=xw B V (A++[v]) C (by simpa using h)
   rw[uN]at h2
   rw[show A.length+1=A.length+[v].length by rfl,h2];simp
 |[],v::V,A,C,h=>by simp at h
 |b::B,[],A,C,h=>by simp at h
theorem Eo (n:Nat) {v:AV} (hv:v.sc=true):AV.aB (List.replicate n v)=true:=by
 induction n with
 |zero=>rfl
 |succ n ih=>rw[List.replicate_succ,pD,hv,ih];rfl
theorem B7 (v:AV):∀n,dM n [v]=List.replicate n v
 |0=>rfl
 |n+1=>by rw[dM,B7 v n];rfl
theorem C8 {k y:Nat} (h:k≤y):j7 (I k) y=some k:=by
 simp [j7,ni,I];omega
theorem Fg {h:H} {id N k:Nat} {cs:List AV} (hg:h.get id=some cs) (hN:cs.length=N) (hk:k≤N):rB h 1 (.aD id 0 N 1) (some (I k)) none none=some (.aD id k (N-k) 1):=by
 simp [rB,hg,hN,aA,C8 hk]
theorem Dp {h:H} {id N M k:Nat} {cs:List AV} (hg:h.get id=some cs) (hN:cs.length=N) (hM:M≤N) (hk:k≤N):rB h 1 (.aD id 0 M 1) none (some (I k)) none=some (.aD id 0 k 1):=by
 have:j7 (I k) N=some k:=C8 hk
 simp [rB,hg,hN,aA,this,hM]
def x8 (v:AV) (k N:Nat):List AV:=List.replicate k v++List.replicate (N-k) (I 0)
theorem Gm {v:AV} {k N:Nat} (h:k≤N):(x8 v k N).length=N:=by simp [x8];omega
theorem C5 {v:AV} {k N m:Nat} (h:k+m≤N):setFrom (x8 v k N) k (List.replicate m v)=x8 v (k+m) N:=by
 have e:List.replicate (N-k) (I 0)=List.replicate m (I 0)++List.replicate (N-(k+m)) (I 0):=by
  rw[List.replicate_append_replicate];congr 1;omega
 have:=xw (List.replicate m (I 0)) (List.replicate m v) (List.replicate k v) (List.replicate (N-(k+m)) (I 0)) (by simp)
 rw[QI]at this
 rw[x8,e,this,x8,←List.append_assoc,List.replicate_append_replicate]
theorem zS (v : AV) (hv : v.sc = true) (N id : Nat) (hN : N < 1000000000) : ∀ (f k : Nat) (h : H), N - k ≤ f → 0 < k → k ≤ N → h.get id = some (x8 v k N) → h.floor ≤ id →
 ∃e' h',Lp AP.A [7,8] AP.f43L0 [(7,.aD id 0 N 1),(8,I k)] h=some (.exit 0,e',h')∧look e' 7=.aD id 0 N 1∧h'.get id=some (x8 v N N)∧h'.next=h.next
 | f, k, h, hf, hk, hkN, hg, hfl => by
   by_cases hlt:k<N
   · have c1:(k:Int)<(N:Int):=by omega
     have hlen:=Gm (v:=v) hkN
     have s1:=Fg hg hlen hkN
     have s2:=Dp hg hlen (ur N) hkN
     obtain⟨m,hm⟩:∃m,m=Nat.min k (N-k):=⟨_,rfl⟩
     have hm1:0<m∧m≤k∧k+m≤N:=by
      rw[hm];have:Nat.min k (N-k)=min k (N-k):=rfl
      rw[this];omega
     have hsrc:aR h 1 (.aD id 0 k 1)=some (k,List.replicate k v):=by
      simp only[aR,if_true,hg,um]
      rw[if_pos (by rw[hlen];omega)]
      simp [x8]
     have cp:hH h 1 (.aD id k (N-k) 1) (.aD id 0 k 1)=some (I m,h.set id (x8 v (k+m) N)):=by
      unfold hH
      rw[hsrc,um]
      simp only[Eo k hv,hfl,and_self,true_and,if_true,hg,um,hlen]
      rw[if_pos (by omega),←hm,QM,List.take_replicate,Nat.min_eq_left hm1.2.1,C5 hm1.2.2];rfl
     have w1:IntKind.wrap .i64 ((k:Int)+m)=((k+m:Nat):Int):=by rw[show(k:Int)+m=((k+m:Nat):Int)by omega];exact uS (by omega)
     have al:iY false (.aD id 0 N 1)=some (I N):=rfl
     have step:aK (aQ AP.A) bA AP.f43L0 (ax [(7,.aD id 0 N 1),(8,I k)] [7,8]) h=some (.normal,[(7,.aD id 0 N 1),(8,I (k+m:Nat))],h.set id (x8 v (k+m) N)):=by
      simp only[I]at *
      simp only[AP.f43L0,go_sem,al,Qq c1,Qp,QC,s1,s2,cp,w1]
     match f,hf with
     |0,hf=>omega
     | f + 1, hf =>
       obtain⟨e',h',q1,q2,q3,q4⟩:=zS v hv N id hN f (k+m) (h.set id (x8 v (k+m) N)) (by omega) (by omega) (by omega) (by rw[H.dB,if_pos rfl,hg];rfl) (by simpa using hfl)
       exact⟨e',h',sP step q1,q2,q3,by rw[q4];simp⟩
   · have hkN':k=N:=by omega
     subst hkN'
     have c1:¬(k:Int)<(k:Int):=by omega
     have al:iY false (.aD id 0 k 1)=some (I k):=rfl
     refine⟨[(7,.aD id 0 k 1),(8,I k),(37,.bool false)],h,sN ?_,rfl,hg,rfl⟩
     simp only[I]at *
     simp only[AP.f43L0,go_sem,al,Qn c1]
theorem xM (h : H) (x : AV) (y : Int) (N : Nat) (hN : N < 1000000000) (rd : Rd h x [I y]) : aQ AP.A 43 [x, I N] h = some (.aU false (ints (List.replicate N y)) 0 N 1, h) := by
 have rd':=rd.mono (vk h)
 have ln:=rd.len
 have mc:=Oq h.dU 1 N (by omega) (by omega) (by omega)
 rw[Nat.one_mul]at mc
 have mc':aQ AP.A 63 [.int .u64 1,.int .u64 N] h.dU=some (.bO [.int .u64 0,.int .u64 N],h.dU):=mc
 clear mc
 have c0:¬(N:Int)<0:=by omega
 have w1:IntKind.wrap .u64 1=1:=by decide
 have w2:IntKind.wrap .u64 (N:Int)=N:=AW (by omega)
 have w3:IntKind.wrap .i64 (N:Int)=N:=uS (by omega)
 have c1:¬(0:Int)<0:=by omega
 have c2:¬(9223372036854775807:Int)<(N:Int):=by omega
 obtain⟨id,hid⟩:∃i,i=h.next:=⟨_,rfl⟩
 obtain⟨g1,hg1⟩:∃g,g=h.dU.alloc (List.replicate N (I 0)):=⟨_,rfl⟩
 have e1:g1.get id=some (List.replicate N (I 0)):=by rw[hg1,H.aV,if_pos (by rw[hid];rfl)]
 have bt:aX [(29,I N),(28,.int .u64 N),(0,x),(6,.int .u64 N)] (.iQ 1 8 [I 0] (.t 29) (.t 29))=some (List.replicate N (I 0),fun i=>.aD i 0 N 1):=by
  have c3:(8:Int)* N≤281474976710656:=by omega
  have c4:(N:Int)≤9223372036854775807:=by omega
  simp [aX,I,B7,c3,c4]
 have hcp : ∃ (k : Nat) (h2 : H), hH g1 1 (.aD id 0 N 1) x = some (I k, h2) ∧ ((k = 0 ∧ N = 0) ∨ (k = 1 ∧ 0 < N)) ∧ h2.get id = some (x8 (I y) k N) ∧ h2.floor = h.next ∧ h2.next = g1.next := by
  have rd2:aR g1 1 x=some (1,[I y]):=(rd.mono (fun i c q=>by rw[hg1,H.aV,if_neg (by have:=h.lt _ _ q;show i≠h.next;omega)];exact q)).1
  refine⟨Nat.min 1 N,g1.set id (x8 (I y) (Nat.min 1 N) N), ?_, ?_,by rw[H.dB,if_pos rfl,e1];rfl,by rw[hg1];simp,by simp⟩
  · unfold hH
    rw[rd2,um]
    have hf:g1.floor≤id:=by rw[hg1,hid];simp
    have ha:AV.aB [I y]=true:=rfl
    simp only[ha,hf,and_self,true_and,if_true,e1,um,QI]
    rw[if_pos (by omega),QM]
    have hz:List.replicate N (I 0)=x8 (I y) 0 N:=by simp [x8]
    rw[hz]
    have ht:[I y].take (Nat.min 1 N)=List.replicate (Nat.min 1 N) (I y):=by
     cases N with
     |zero=>rfl
     | succ n => have : Nat.min 1 (n + 1) = 1 := by show min 1 (n + 1) = 1; omega
                 rw[this];rfl
    rw[ht,C5 (by show 0+min 1 N≤N;omega),uy];rfl
  · cases N with
    |zero=>left;exact⟨rfl,rfl⟩
    |succ n=>right;exact⟨by show min 1 (n+1)=1;omega,by omega⟩
 obtain⟨k,h2,cp1,cp2,cp3,cp4,cp5⟩:=hcp
 have lp:∃e' h3,Lp AP.A [7,8] AP.f43L0 [(7,.aD id 0 N 1),(8,I k)] h2=some (.exit 0,e',h3)∧look e' 7=.aD id 0 N 1∧h3.get id=some (x8 (I y) N N):=by
  rcases cp2 with ⟨rfl,rfl⟩|⟨rfl,hN0⟩
  · refine⟨[(7,.aD id 0 0 1),(8,I 0),(37,.bool false)],h2,sN ?_,rfl,cp3⟩
    have al:iY false (.aD id 0 0 1)=some (I 0):=rfl
    simp only[I]at *
    simp only[AP.f43L0,go_sem,al,Int.natCast_zero]
  · obtain⟨e',h',q1,q2,q3,_⟩:=zS (I y) rfl N id hN N 1 h2 (by omega) (by omega) (by omega) cp3 (by rw[cp4,hid];exact ur _)
    exact⟨e',h',q1,q2,q3⟩
 obtain⟨e',h3,q1,q2,q3⟩:=lp
 refine tB (fn:=AP.f43) (h2:=h3) (e:=[(4,.aD id 0 N 1)]) (vs:=[.aD id 0 N 1]) rfl rfl rfl ?_ rfl ?_
 · have al:iY false x=some (I 1):=ln
   have hn:h.dU.next=id:=by rw[hid];rfl
   simp only[I]at *
   simp only[AP.f43,go_sem,al,Qn c0,w1,w2,w3,mc',Qn c1,Qn c2,bt,←hg1,hn,cp1,rH,q1,q2]
 · have hr:x8 (I y) N N=ints (List.replicate N y):=by simp [x8,ints]
   show snap h3.get h.next 16 true (.aD id 0 N 1)=_
   unfold snap
   rw[if_neg (by omega),q3,um,hr,if_pos (by simp)]
   have ht:((ints (List.replicate N y)).drop 0).take (N* 1)=ints (List.replicate N y):=by
    rw[Qs,QM,uI (by simp)]
   rw[ht,wS];rfl
theorem L5 (h:H) (N:Nat) (hN0:0<N) (hN:N<1000000000):aQ AP.A 76 [.aO,I N] h=some (.aD h.next 0 0 1,h.alloc (List.replicate N (I 0))):=by
 have c0:¬(N:Int)<0:=by omega
 have c1:(0:Int)<N:=by omega
 have w0:IntKind.wrap .i64 (0-0)=0:=by decide
 have w1:IntKind.wrap .i64 ((N:Int)-0)=N:=by rw[Int.sub_zero];exact uS (by omega)
 have a1:py .aO=some (I 0):=rfl
 have a2:iY false .aO=some (I 0):=rfl
 have a3:rB h 1 .aO none (some (I 0)) none=some .aO:=rfl
 have a4:g9 h 1 8 [I 0] .aO (I N)=some (.aD h.next 0 N 1,h.alloc (List.replicate N (I 0))):=by
  have c3:(N:Int)≤281474976710656:=by omega
  have c4:(N:Int)* 8≤281474976710656:=by omega
  have c5:roomy 8 N=true:=by simp [roomy];omega
  simp [g9,I,c3,c4,c5,B7,hN0]
 have a5:rB (h.alloc (List.replicate N (I 0))) 1 (.aD h.next 0 N 1) none (some (I 0)) none=some (.aD h.next 0 0 1):=
  Dp (by rw[H.aV,if_pos rfl]) (by simp) (ur _) (Nat.zero_le _)
 refine ta (fn:=AP.f76) (e:=[(4,.aD h.next 0 0 1)]) rfl rfl rfl ?_ rfl
 simp only[I]at *
 simp only[AP.f76,go_sem,Qn c0,Qq c1,w0,w1,a1,a2,Qp,QC,a3,a4,a5]
def cat (ps:List (AV×List Int)):List Int:=ps.flatMap (·.2)
theorem CA (p:AV×List Int) (ps:List (AV×List Int)):cat (p::ps)=p.2++cat ps:=by simp [cat]
theorem yZ {h:H} {x:AV} {all:List (AV×List Int)} (rd:Rd h x (all.map (·.1))) (hp:∀p∈all,Rd h p.1 (ints p.2)) (hT:(cat all).length<1000000000) (hA:all.length<1000000000):
 ∀(ps qs:List (AV×List Int)),all=qs++ps→
 ∃e',Lp AP.A [0,3,9,10,11] AP.f62L1 [(0,x),(3,I (cat qs).length),(9,x),(10,I all.length),(11,I qs.length)] h=some (.exit 0,e',h)∧look e' 0=x∧look e' 3=I (cat all).length
 | [], qs, hq => by
   rw[Qv]at hq;subst hq
   refine⟨[(0,x),(3,I (cat all).length),(9,x),(10,I all.length),(11,I all.length),(12,.bool false)],sN ?_,rfl,rfl⟩
   have c1:¬(all.length:Int)<(all.length:Int):=by omega
   simp only[I]at *
   simp only[AP.f62L1,go_sem,Qn c1]
 | p :: ps, qs, hq => by
   have hlen:all.length=qs.length+(ps.length+1):=by rw[hq];simp
   have hct:(cat all).length=(cat qs).length+(p.2.length+(cat ps).length):=by rw[hq];simp [cat]
   have c1:(qs.length:Int)<(all.length:Int):=by omega
   have hv:(all.map (·.1))[qs.length]?=some p.1:=by rw[hq];simp
   obtain⟨a,p1,p2⟩:=rd.elem hv
   have p3:=p2 h (fun _ _ q=>q)
   have ln:=(hp p (by rw[hq];simp)).len
   rw[o9]at ln
   have w1:IntKind.wrap .i64 (((cat qs).length:Int)+p.2.length)=((cat (qs++[p])).length:Int):=by
    rw[show((cat qs).length:Int)+p.2.length=((cat (qs++[p])).length:Int)by simp [cat]];exact uS (by simp [cat]at *;omega)
   have c2:¬((cat (qs++[p])).length:Int)<0:=by omega
   have w2:IntKind.wrap .i64 ((qs.length:Int)+1)=((qs++[p]).length:Int):=by
    rw[uN];exact uS (n:=qs.length+1) (by omega)
   obtain⟨e',q1,q2,q3⟩:=yZ rd hp hT hA ps (qs++[p]) (by rw[hq];simp)
   have step:aK (aQ AP.A) bA AP.f62L1 (ax [(0,x),(3,I (cat qs).length),(9,x),(10,I all.length),(11,I qs.length)] [0,3,9,10,11]) h=some (.normal,[(0,x),(3,I (cat (qs++[p])).length),(9,x),(10,I all.length),(11,I (qs++[p]).length)],h):=by
    generalize hB:(qs++[p]).length=B at *
    simp only[I]at *
    simp only[AP.f62L1,go_sem,Qq c1,p1,p3,ln,w1,Qn c2,w2]
   exact⟨e',sP step q1,q2,q3⟩
theorem y3 {h0 : H} {x : AV} {all : List (AV × List Int)} (rd : Rd h0 x (all.map (·.1))) (hp : ∀ p ∈ all, Rd h0 p.1 (ints p.2)) (hT : (cat all).length < 1000000000) (hA : all.length < 1000000000) (id : Nat) (hid : h0.next ≤ id) :
 ∀(ps qs:List (AV×List Int)) (h:H),all=qs++ps→h.floor≤id→h.get id=some (ints (cat qs)++List.replicate (cat ps).length (I 0))→(∀i c,h0.get i=some c→h.get i=some c)→
 ∃e' h',Lp AP.A [6,25,26,27] AP.f62L0 [(6,.aD id 0 (cat qs).length 1),(25,x),(26,I all.length),(27,I qs.length)] h=some (.exit 2,e',h')∧look e' 6=.aD id 0 (cat all).length 1∧h'.get id=some (ints (cat all))
 | [], qs, h, hq, hf, hg, hm => by
   rw[Qv]at hq;subst hq
   refine⟨[(6,.aD id 0 (cat all).length 1),(25,x),(26,I all.length),(27,I all.length),(28,.bool false)],h,sN ?_,rfl,by rw[hg];simp [cat]⟩
   have c1:¬(all.length:Int)<(all.length:Int):=by omega
   simp only[I]at *
   simp only[AP.f62L0,go_sem,Qn c1]
 | p :: ps, qs, h, hq, hf, hg, hm => by
   have hlen:all.length=qs.length+(ps.length+1):=by rw[hq];simp
   have hct:(cat all).length=(cat qs).length+(p.2.length+(cat ps).length):=by rw[hq];simp [cat]
   have hcq:(cat (qs++[p])).length=(cat qs).length+p.2.length:=by simp [cat]
   have c1:(qs.length:Int)<(all.length:Int):=by omega
   have hv:(all.map (·.1))[qs.length]?=some p.1:=by rw[hq];simp
   obtain⟨a,p1,p2⟩:=rd.elem hv
   have p3:=p2 h hm
   have src:=((hp p (by rw[hq];simp)).mono hm).1
   rw[o9]at src
   have w2:IntKind.wrap .i64 ((qs.length:Int)+1)=((qs++[p]).length:Int):=by
    rw[uN];exact uS (n:=qs.length+1) (by omega)
   have hz:List.replicate (cat (p::ps)).length (I 0)=List.replicate p.2.length (I 0)++List.replicate (cat ps).length (I 0):=by
    rw[List.replicate_append_replicate,CA,uN]
   have hap:∃h1,kz h 1 8 (.aD id 0 (cat qs).length 1) p.1=some (.aD id 0 (cat (qs++[p])).length 1,h1)∧h1.floor=h.floor∧h1.get id=some (ints (cat (qs++[p]))++List.replicate (cat ps).length (I 0))∧∀i c,h0.get i=some c→h1.get i=some c:=by
    by_cases h0':p.2.length=0
    · have hp2:p.2=[]:=List.length_eq_zero_iff.1 h0'
      refine⟨h, ?_,rfl, ?_,hm⟩
      · unfold kz
        rw[src,um]
        unfold dP
        rw[if_pos (by simp [h0']),hcq,h0',QH]
      · rw[hg,CA,hp2];simp [cat,hp2]
    · refine⟨h.set id (ints (cat (qs++[p]))++List.replicate (cat ps).length (I 0)), ?_,by simp,by rw[H.dB,if_pos rfl,hg];rfl,fun i c q=> ?_⟩
      · unfold kz
        rw[src,um]
        have hs:setFrom (ints (cat qs)++List.replicate (cat (p::ps)).length (I 0)) (cat qs).length (ints p.2)=ints (cat (qs++[p]))++List.replicate (cat ps).length (I 0):=by
         have:=xw (List.replicate p.2.length (I 0)) (ints p.2) (ints (cat qs)) (List.replicate (cat ps).length (I 0)) (by simp)
         rw[o9]at this
         rw[hz,this];simp [cat,o8]
        unfold dP
        dsimp only
        rw[if_neg h0',if_neg (by simp [jH])]
        rw[if_pos ⟨rfl,hf⟩,hg,um,if_pos (by rw[hz];simp)]
        rw[QM,uy,hs,hcq]
      · rw[H.dB,if_neg (by have:=h0.lt _ _ q;omega)];exact hm i c q
   obtain⟨h1,ap1,ap2,ap3,ap4⟩:=hap
   obtain⟨e',h',q1,q2,q3⟩:=y3 rd hp hT hA id hid ps (qs++[p]) h1 (by rw[hq];simp) (by rw[ap2];exact hf) ap3 ap4
   have step:aK (aQ AP.A) bA AP.f62L0 (ax [(6,.aD id 0 (cat qs).length 1),(25,x),(26,I all.length),(27,I qs.length)] [6,25,26,27]) h=some (.normal,[(6,.aD id 0 (cat (qs++[p])).length 1),(25,x),(26,I all.length),(27,I (qs++[p]).length)],h1):=by
    generalize hB:(qs++[p]).length=B at *
    simp only[I]at *
    simp only[AP.f62L0,go_sem,Qq c1,p1,p3,ap1,w2]
   exact⟨e',h',sP step q1,q2,q3⟩
def xK (l:List Int):AV:=.aU false (ints l) 0 l.length 1
theorem xY (h:H) (l:List Int):Rd h (xK l) (ints l):=by
 refine⟨?_,by intro s e;cases e⟩
 simp [aR,xK,uI]
theorem Fu (h:H) (x:AV) (ps:List (AV×List Int)) (rd:Rd h x (ps.map (·.1))) (hp:∀p∈ps,Rd h p.1 (ints p.2)) (hT:(cat ps).length<1000000000) (hA:ps.length<1000000000) (h0:0<(cat ps).length):aQ AP.A 62 [x] h=some (xK (cat ps),h):=by
 have rd':=rd.mono (vk h)
 have hp':∀p∈ps,Rd h.dU p.1 (ints p.2):=fun p q=>(hp p q).mono (vk h)
 have ln:=rd.len
 rw[Qr]at ln
 obtain⟨e1,a1,a2,a3⟩:=yZ rd' hp' hT hA ps [] rfl
 have a1':Lp AP.A [0,3,9,10,11] AP.f62L1 [(0,x),(3,I 0),(9,x),(10,I ps.length),(11,I 0)] h.dU=some (.exit 0,e1,h.dU):=a1
 clear a1
 have gc:=L5 h.dU (cat ps).length h0 hT
 obtain⟨h1,hh1⟩:∃g,g=h.dU.alloc (List.replicate (cat ps).length (I 0)):=⟨_,rfl⟩
 rw[←hh1]at gc
 obtain⟨e2,h2,b1,b2,b3⟩:=y3 rd' hp' hT hA h.next (ur _) ps [] h1 rfl (by rw[hh1];simp) (by rw[hh1,H.aV,if_pos (show h.next=h.dU.next from rfl)];rfl)
  (fun i c q=>by rw[hh1,H.aV,if_neg (by have:=h.dU.lt _ _ q;omega)];exact q)
 have b1':Lp AP.A [6,25,26,27] AP.f62L0 [(6,.aD h.next 0 0 1),(25,x),(26,I ps.length),(27,I 0)] h1=some (.exit 2,e2,h2):=b1
 clear b1
 have hn:h.dU.next=h.next:=rfl
 refine tB (fn:=AP.f62) (h2:=h2) (e:=[(2,.aD h.next 0 (cat ps).length 1)]) (vs:=[.aD h.next 0 (cat ps).length 1]) rfl rfl rfl ?_ rfl ?_
 · simp only[I]at *
   simp only[AP.f62,go_sem,ln,rH,a1',a2,a3,gc,hn,b1',b2]
 · show snap h2.get h.next 16 true (.aD h.next 0 (cat ps).length 1)=_
   unfold snap
   rw[if_neg (by omega),b3,um,if_pos (by simp)]
   have ht:((ints (cat ps)).drop 0).take ((cat ps).length* 1)=ints (cat ps):=by
    rw[Qs,QM,uI (by simp)]
   rw[ht,wS];rfl
def wk:List Int:=List.replicate 144 8++(List.replicate 112 9++(List.replicate 24 7++List.replicate 8 8))
theorem MY (e:Env) (n:Int):aX e (.cP 1 1 [.int .i64 0] [(0,.c (.int .i64 n))])=some ([I n],fun i=>.aD i 0 1 1):=rfl
theorem yC (h:H) (n:Int):Rd (h.alloc [I n]) (.aD h.next 0 1 1) [I n]:=by
 refine⟨?_,by intro s e;cases e⟩
 simp [aR,H.aV]
theorem Hw (h:H):aQ AP.A 42 [] h=some (xK wk,h):=by
 have r1:=xM (h.dU.alloc [I 8]) (.aD h.dU.next 0 1 1) 8 144 (by omega) (yC _ _)
 have r2:=xM ((h.dU.alloc [I 8]).alloc [I 9]) (.aD (h.dU.alloc [I 8]).next 0 1 1) 9 112 (by omega) (yC _ _)
 have r3:=xM (((h.dU.alloc [I 8]).alloc [I 9]).alloc [I 7]) (.aD ((h.dU.alloc [I 8]).alloc [I 9]).next 0 1 1) 7 24 (by omega) (yC _ _)
 have r4:=xM ((((h.dU.alloc [I 8]).alloc [I 9]).alloc [I 7]).alloc [I 8]) (.aD (((h.dU.alloc [I 8]).alloc [I 9]).alloc [I 7]).next 0 1 1) 8 8 (by omega) (yC _ _)
 obtain⟨g4,hg4⟩:∃g,g=(((h.dU.alloc [I 8]).alloc [I 9]).alloc [I 7]).alloc [I 8]:=⟨_,rfl⟩
 obtain⟨v1,hv1⟩:∃v,v=AV.aU false (ints (List.replicate 144 8)) 0 144 1:=⟨_,rfl⟩
 obtain⟨v2,hv2⟩:∃v,v=AV.aU false (ints (List.replicate 112 9)) 0 112 1:=⟨_,rfl⟩
 obtain⟨v3,hv3⟩:∃v,v=AV.aU false (ints (List.replicate 24 7)) 0 24 1:=⟨_,rfl⟩
 obtain⟨v4,hv4⟩:∃v,v=AV.aU false (ints (List.replicate 8 8)) 0 8 1:=⟨_,rfl⟩
 have hc:cat [(v1,List.replicate 144 8),(v2,List.replicate 112 9),(v3,List.replicate 24 7),(v4,List.replicate 8 8)]=wk:=by
  simp only[cat,wk,List.flatMap_cons,List.flatMap_nil,Qv]
 have hfl:wk.length=288:=by simp only[wk,uN,QI]
 have cc:=Fu (g4.alloc [v1,v2,v3,v4]) (.aD g4.next 0 4 1) [(v1,List.replicate 144 8),(v2,List.replicate 112 9),(v3,List.replicate 24 7),(v4,List.replicate 8 8)]
  ⟨by simp [aR,H.aV],by intro s e;cases e⟩
  (by
    intro p hp
    simp only[uK,List.not_mem_nil,or_false]at hp
    rcases hp with rfl|rfl|rfl|rfl
    · rw[hv1];exact xY _ _
    · rw[hv2];exact xY _ _
    · rw[hv3];exact xY _ _
    · rw[hv4];exact xY _ _) (by rw[hc,hfl];omega) (by simp) (by rw[hc,hfl];omega)
 rw[hc]at cc
 have bt:∀e:Env,look e 2=v1→look e 4=v2→look e 6=v3→look e 8=v4→aX e (.cP 1 4 [.aO] [(0,.t 2),(1,.t 4),(2,.t 6),(3,.t 8)])=some ([v1,v2,v3,v4],fun i=>.aD i 0 4 1):=by
  intro e q1 q2 q3 q4
  simp only[aX,Qz,List.map_nil,rK,q1,q2,q3,q4]
  rw[hv1,hv2,hv3,hv4];rfl
 refine tB (fn:=AP.f42) (h2:=g4.alloc [v1,v2,v3,v4]) (e:=[(0,xK wk)]) rfl rfl rfl ?_ rfl ?_
 · rw[←hv1]at r1;rw[←hv2]at r2;rw[←hv3]at r3;rw[←hv4]at r4
   rw[←hg4]at r4
   have r1':aQ AP.A 43 [.aD h.dU.next 0 1 1,I 144] (h.dU.alloc [I 8])=some (v1,h.dU.alloc [I 8]):=r1
   have r2':aQ AP.A 43 [.aD (h.dU.alloc [I 8]).next 0 1 1,I 112] ((h.dU.alloc [I 8]).alloc [I 9])=some (v2,(h.dU.alloc [I 8]).alloc [I 9]):=r2
   have r3':aQ AP.A 43 [.aD ((h.dU.alloc [I 8]).alloc [I 9]).next 0 1 1,I 24] (((h.dU.alloc [I 8]).alloc [I 9]).alloc [I 7])=some (v3,((h.dU.alloc [I 8]).alloc [I 9]).alloc [I 7]):=r3
   have r4':aQ AP.A 43 [.aD (((h.dU.alloc [I 8]).alloc [I 9]).alloc [I 7]).next 0 1 1,I 8] g4=some (v4,g4):=r4
   clear r1 r2 r3 r4 hv1 hv2 hv3 hv4 hc
   simp only[I]at *
   simp only[AP.f42,go_sem,MY,I,r1',r2',r3',←hg4,r4']
   rw[bt _ rfl rfl rfl rfl]
   simp only[ma,rY,go_sem,cc]
 · simp only[dx];unfold snap xK;rfl
def wC:List Int:=[16,17,18,0,8,7,9,6,10,5,11,4,12,3,13,2,14,1,15]
theorem HN (h:H):aQ AP.A 79 [] h=some (xK wC,h):=by
 have b:aX [] (.cP 1 19 [.int .i64 0] [(0,(.c (.int .i64 16))),(1,(.c (.int .i64 17))),(2,(.c (.int .i64 18))),(3,(.c (.int .i64 0))),(4,(.c (.int .i64 8))),(5,(.c (.int .i64 7))),(6,(.c (.int .i64 9))),(7,(.c (.int .i64 6))),(8,(.c (.int .i64 10))),(9,(.c (.int .i64 5))),(10,(.c (.int .i64 11))),(11,(.c (.int .i64 4))),(12,(.c (.int .i64 12))),(13,(.c (.int .i64 3))),(14,(.c (.int .i64 13))),(15,(.c (.int .i64 2))),(16,(.c (.int .i64 14))),(17,(.c (.int .i64 1))),(18,(.c (.int .i64 15)))])=some (ints wC,fun i=>.aD i 0 19 1):=rfl
 refine tB (fn:=AP.f79) (h2:=h.dU.alloc (ints wC)) (e:=[(0,.aD h.next 0 19 1)]) (vs:=[.aD h.next 0 19 1]) rfl rfl rfl ?_ rfl ?_
 · have hn:h.dU.next=h.next:=rfl
   simp only[AP.f79,go_sem,b,hn]
 · show snap (h.dU.alloc (ints wC)).get h.next 16 true (.aD h.next 0 19 1)=_
   unfold snap
   rw[if_neg (by omega),H.aV,if_pos (show h.next=h.dU.next from rfl),um,if_pos (by decide)]
   rw[show((ints wC).drop 0).take (19* 1)=ints wC from rfl,wS];rfl
def FM (c:ae) (d:Option Nat) (r:List aj) (e:Env) (p:Option (AV×H)):Option (Env×H×List H):=p.bind fun q=>aM c r (aL d q.1 e) q.2
theorem BL (c:ae) (d:Option Nat) (r:List aj) (e:Env) (v:AV) (h:H):FM c d r e (some (v,h))=aM c r (aL d v e) h:=ui rfl rfl
def EU (aN:Bool) (h:H) (p:Option (Env×H×List H)):Option (Env×H×List H):=p.bind fun q=>some (q.1,q.2.1,if aN then h::q.2.2 else q.2.2)
theorem BZ (h:H) (e:Env) (h':H) (gs:List H):EU true h (some (e,h',gs))=some (e,h',h::gs):=ui rfl rfl
theorem BX (h:H) (e:Env) (h':H) (gs:List H):EU false h (some (e,h',gs))=some (e,h',gs):=ui rfl rfl
theorem zm (c:ae) (e:Env) (h:H):aM c [] e h=some (e,h,[h]):=ui rfl rfl
theorem Bp (c:ae) (o:aj) (r:List aj) (e:Env) (h:H):aM c (o::r) e h=EU o.op.aN h (FM c o.dst r e (ai c o e h)):=by
 rw[aM]
 unfold EU FM
 cases hv:ai c o e h with
 |none=>rfl
 | some q =>
   obtain⟨v,h'⟩:=q
   simp only[um]
theorem BV (c:ae) (d:Option Nat) (op:bW) (r:List aj) (e:Env) (h:H):aM c (⟨d,op,none⟩::r) e h=EU op.aN h (FM c d r e (ah c e h op)):=Bp _ _ _ _ _
theorem Ge (c:ae) (d:Option Nat) (op:bW) (g:Nat) (w:Bool) (r:List aj) (e:Env) (h:H):aM c (⟨d,op,some (g,w)⟩::r) e h=EU op.aN h (FM c d r e (kO w c e h op (look e g))):=Bp _ _ _ _ _
theorem E3 {c:ae} {l:bK} {e e':Env} {h h':H} {gs:List H} (ord:List Nat) (ops:List aj) (fl:List (Nat×List Nat)) (vI:List Nat) (h1:aM c ops e h=some (e',h',gs)) (h2:aY c ops e' gs fl=true):aK c l (.iO ord ops fl vI) e h=some (.normal,ax e' vI,h'):=by
 rw[aK,h1,um]
 dsimp only
 rw[if_pos h2]
theorem zK {c:ae} {ops:List aj} {e:Env} {gs:List H} {i:Nat} {ks:List Nat} {r:List (Nat×List Nat)} (h1:∀k∈ks,bI c ops e gs i k=true) (h2:aY c ops e gs r=true):aY c ops e gs ((i,ks)::r)=true:=by
 simp only[aY,uu,QE]
 exact⟨h1,h2⟩
theorem zJ {c:ae} {ops:List aj} {e:Env} {gs:List H} {i k:Nat} {o:aj} {g h':H} {d:Nat} {u:AV} (ho:ops[i]?=some o) (hg:gs[k]?=some g) (hb:o.op.aH=false) (hd:o.dst=some d) (hv:ai c o e g=some (u,h')) (hu:AV.beq u (look e d)=true):bI c ops e gs i k=true:=by
 unfold bI
 rw[ho,hg]
 dsimp only
 rw[hb]
 simp only[uo,uO,hd,Qp,hv]
 exact hu
theorem BE (k:IntKind) (n:Int):AV.beq (.int k n) (.int k n)=true:=by simp [AV.beq]
theorem Ae (i o l z:Nat):AV.beq (.aD i o l z) (.aD i o l z)=true:=by simp [AV.beq]
theorem Cq (i o:Nat):AV.beq (.aC i o) (.aC i o)=true:=by simp [AV.beq]
theorem zY (s:ByteArray):AV.beq (.str s) (.str s)=true:=by
 have:(s==s)=true:=by
  obtain⟨d⟩:=s
  show(d==d)=true
  exact beq_self_eq_true d
 simp [AV.beq,this]
theorem mW.apps {h:H} {v:AV} {cs:List AV} (o:mW h v cs) (hfn:h.floor≤h.next) {z:Nat} (bs:List AV) (hc:AV.aB bs=true) (hb:0<bs.length) (hr:roomy z (cs.length+bs.length)=true):
 ∃v' h',dP h 1 z v bs.length bs=some (v',h')∧mW h' v' (cs++bs)∧h'.floor=h.floor∧h.next≤h'.next∧(∀i,v.id?≠some i→i≠h.next→h'.get i=h.get i)∧v'.id?=some h.next:=by
 have hne:bs≠[]:=by intro e;rw[e]at hb;simp at hb
 rcases o with ⟨rfl,rfl⟩|⟨id,rfl,hg,hf,hne'⟩
 · refine⟨.aD h.next 0 bs.length 1,h.alloc bs, ?_,.inr ⟨h.next,by simp,by simp [H.aV], ?_,by simpa using hne⟩,by simp,by simp,fun i _ hi=>by rw[H.aV,if_neg hi],rfl⟩
   · unfold dP
     rw[if_neg (by omega),if_neg (by simp [hc])]
     simp only[Qo,uy]at hr
     simp only[hr,if_true]
   · simp;omega
 · refine⟨.aD h.next 0 (cs.length+bs.length) 1,(h.del id).alloc (cs++bs), ?_,.inr ⟨h.next,by simp,by simp [H.aV], ?_,by simp [hne]⟩,by simp,by simp,fun i h1 h2=> ?_,rfl⟩
   · unfold dP
     rw[if_neg (by omega),if_neg (by simp [hc])]
     simp only[hf,and_self,if_true,hg,um]
     rw[if_neg (by omega),if_pos ⟨by omega,hr⟩]
     simp
   · have:=h.lt id cs hg;simp;omega
   · rw[H.aV,H.ju,if_neg h2,H.dX,if_neg]
     intro e;subst e;exact h1 rfl
theorem St.vI {c:SC} {S:SS} {h h':H} {ov:AV} (st:St c S h ov) (hf:h'.floor=h.floor) (hn:h.next≤h'.next) (hg:∀i,i=c.s∨i=c.r∨ov.id?=some i→h'.get i=h.get i):St c S h' ov:=by
 refine⟨by rw[hg _ (.inl rfl)];exact st.gs,by rw[hg _ (.inr (.inl rfl))];exact st.gr,st.own.mono hf fun i hi=>hg i (.inr (.inr hi)),st.sr,by rw[hf];exact st.fs,by rw[hf];exact st.fr,st.os,st.or,by rw[hf];exact uL st.nx hn,st.sz,st.xD,st.ol,st.ml⟩
theorem St.lt {c:SC} {S:SS} {h:H} {ov:AV} (st:St c S h ov) {i:Nat} (hi:i=c.s∨i=c.r∨ov.id?=some i):i<h.next:=by
 rcases hi with rfl|rfl|hi
 · exact h.lt _ _ st.gs
 · exact h.lt _ _ st.gr
 · exact st.own.lt hi
theorem St.alloc {c:SC} {S:SS} {h:H} {ov:AV} (st:St c S h ov) (cs:List AV):St c S (h.alloc cs) ov∧Fr c h ov (h.alloc cs) ov:=by
 refine⟨st.vI (by simp) (by simp) fun i hi=> ?_,⟨by simp,by simp,fun id h1 _ _ _=> ?_,fun _ q=>.inl q⟩⟩
 · have:=st.lt hi;rw[H.aV,if_neg (by omega)]
 · rw[H.aV,if_neg (by omega)]
def vA (c:SC) (y:Int) (acc:List Int) (S:SS):(Int×Nat)×SS:=
 if y=16 then(if acc=[]then((0,0),vi 700 S)else((acc.getD (acc.length-1) 0,3+(uV c 2 S).1),(uV c 2 S).2))
 else if y=17 then((0,3+(uV c 3 S).1),(uV c 3 S).2)
 else if y=18 then((0,11+(uV c 7 S).1),(uV c 7 S).2)
 else((y,1),S)
theorem yx (c:SC) (S:SS) (n:Nat) (hn:n≤16):(uV c n S).1<65536:=by
 unfold uV;split
 · have:=vX c.text S.at_ n
   have:=QA (show 0<2 by omega) hn
   simp at *;omega
 · simp
theorem Be {l:List Int} {i:Nat} (h:i<l.length):(ints l)[i]?=some (I (l.getD i 0)):=sj (by simp [List.getD,h])
theorem GZ {c : SC} {S : SS} {h : H} {ov : AV} (st : St c S h ov) (y : Int) {av : AV} {acc : List Int} (oa : mW h av (ints acc)) (ha : acc.length < 100000) (hne : ∀ i, av.id? = some i → i ≠ c.s ∧ i ≠ c.r ∧ ov.id? ≠ some i) :
 ∃h',aQ AP.A 80 [.aC c.s 0,I y,av] h=some (.bO [I (vA c y acc S).1.1,I (vA c y acc S).1.2],h')∧St c (vA c y acc S).2 h' ov∧Fr c h ov h' ov:=by
 have ln:=oa.len
 rw[o9]at ln
 by_cases h16:y=16
 · have d16:=tI h16
   by_cases hnil:acc=[]
   · obtain⟨h',k1,k2,k3⟩:=wx st 700
     have e:vA c y acc S=((0,0),vi 700 S):=by rw[vA,if_pos h16,if_pos hnil]
     rw[e]
     refine⟨h', ?_,k2,k3⟩
     have hz:((acc.length:Int)==0)=true:=by rw[hnil];rfl
     refine ta (fn:=AP.f80) (e:=[(6,I 0),(7,I 0)]) rfl rfl rfl ?_ rfl
     simp only[I]at *
     simp only[AP.f80,go_sem,d16,ln,hz,k1]
   · obtain⟨h',k1,k2,k3⟩:=xJ st 2 2 rfl (by omega)
     have e:vA c y acc S=((acc.getD (acc.length-1) 0,3+(uV c 2 S).1),(uV c 2 S).2):=by rw[vA,if_pos h16,if_neg hnil]
     rw[e]
     have hpos:0<acc.length:=QK.2 hnil
     have hz:((acc.length:Int)==0)=false:=tH (by omega)
     have hg:=yx c S 2 (by omega)
     have w1:IntKind.wrap .i64 (3+((uV c 2 S).1:Int))=((3+(uV c 2 S).1:Nat):Int):=by
      rw[show(3:Int)+((uV c 2 S).1:Int)=((3+(uV c 2 S).1:Nat):Int)by omega];exact uS (by omega)
     have w2:IntKind.wrap .i64 ((acc.length:Int)-1)=((acc.length-1:Nat):Int):=by
      rw[show(acc.length:Int)-1=((acc.length-1:Nat):Int)by omega];exact uS (by omega)
     have hel:=Be (l:=acc) (i:=acc.length-1) (by omega)
     obtain⟨id,i1,i2,i3⟩:=oa.elem hel
     have hid:=hne id (by rw[i1];rfl)
     have i4:h'.get id=some (ints acc):=by rw[k3.Dj id (h.lt _ _ i3) hid.1 hid.2.1 hid.2.2];exact i3
     refine⟨h', ?_,k2,k3⟩
     refine ta (fn:=AP.f80) (e:=[(6,I (acc.getD (acc.length-1) 0)),(7,I (3+(uV c 2 S).1:Nat))]) rfl rfl rfl ?_ rfl
     generalize (uV c 2 S).1=G at *
     clear i1
     simp only[I]at *
     simp only[AP.f80,go_sem,d16,ln,hz]
     rw[E3 (e':=[(7,.int .i64 ((3+G:Nat):Int)),(6,.int .i64 (acc.getD (acc.length-1) 0)),(24,.int .i64 ((3+G:Nat):Int)),(23,.int .i64 G),(22,.aC c.s 0),(21,.int .i64 (acc.getD (acc.length-1) 0)),(20,.aC id (acc.length-1)),(19,.int .i64 (acc.length-1:Nat)),(18,.int .i64 acc.length),(17,av),(16,av),(0,.aC c.s 0),(2,av)]) (h':=h') (gs:=[h,h'])]
     · simp only[go_sem]
     · simp only[zm,BV,BL,BZ,BX,bW.aN,go_sem,ln,w2,i2,i3,hel,k1,w1]
     · refine zK (fun k hk=> ?_) rfl
       obtain rfl:k=1:=by simpa using hk
       refine zJ (o:=⟨some 21,.load false 1 (.t 20),none⟩) (g:=h') (h':=h') (d:=21) (u:=.int .i64 (acc.getD (acc.length-1) 0)) rfl rfl rfl rfl ?_ ?_
       · simp only[ai,go_sem,i4,hel]
       · simp only[go_sem,BE]
 · have d16:=tH h16
   by_cases h17:y=17
   · have d17:=tI h17
     obtain⟨h',k1,k2,k3⟩:=xJ st 3 3 rfl (by omega)
     have e:vA c y acc S=((0,3+(uV c 3 S).1),(uV c 3 S).2):=by rw[vA,if_neg h16,if_pos h17]
     rw[e]
     have hg:=yx c S 3 (by omega)
     have w1:IntKind.wrap .i64 (3+((uV c 3 S).1:Int))=((3+(uV c 3 S).1:Nat):Int):=by
      rw[show(3:Int)+((uV c 3 S).1:Int)=((3+(uV c 3 S).1:Nat):Int)by omega];exact uS (by omega)
     refine⟨h', ?_,k2,k3⟩
     refine ta (fn:=AP.f80) (e:=[(6,I 0),(7,I (3+(uV c 3 S).1:Nat))]) rfl rfl rfl ?_ rfl
     simp only[I]at *
     simp only[AP.f80,go_sem,d16,d17,k1,w1]
   · have d17:=tH h17
     by_cases h18:y=18
     · have d18:=tI h18
       obtain⟨h',k1,k2,k3⟩:=xJ st 7 7 rfl (by omega)
       have e:vA c y acc S=((0,11+(uV c 7 S).1),(uV c 7 S).2):=by rw[vA,if_neg h16,if_neg h17,if_pos h18]
       rw[e]
       have hg:=yx c S 7 (by omega)
       have w1:IntKind.wrap .i64 (11+((uV c 7 S).1:Int))=((11+(uV c 7 S).1:Nat):Int):=by
        rw[show(11:Int)+((uV c 7 S).1:Int)=((11+(uV c 7 S).1:Nat):Int)by omega];exact uS (by omega)
       refine⟨h', ?_,k2,k3⟩
       refine ta (fn:=AP.f80) (e:=[(6,I 0),(7,I (11+(uV c 7 S).1:Nat))]) rfl rfl rfl ?_ rfl
       simp only[I]at *
       simp only[AP.f80,go_sem,d16,d17,d18,k1,w1]
     · have d18:=tH h18
       have e:vA c y acc S=((y,1),S):=by rw[vA,if_neg h16,if_neg h17,if_neg h18]
       rw[e]
       refine⟨h, ?_,st,Fr.refl _ _ _⟩
       refine ta (fn:=AP.f80) (e:=[(6,I y),(7,I 1)]) rfl rfl rfl ?_ rfl
       simp only[I]at *
       simp only[AP.f80,go_sem,d16,d17,d18]
def DC (t:ByteArray):List Int→Nat→List Int→List Int
 |[],_,o=>o
 |s::r,p,o=>DC t r (p+3) (o.set s.toNat (u0 t p 3))
def yK (t:ByteArray) (y:Int) (acc:List Int) (p:Nat):Option (Int×Nat×Nat):=
 if y=16 then(if acc=[]then none else if p+2≤8* t.size then some (acc.getD (acc.length-1) 0,3+u0 t p 2,p+2)else none)
 else if y=17 then(if p+3≤8* t.size then some (0,3+u0 t p 3,p+3)else none)
 else if y=18 then(if p+7≤8* t.size then some (0,11+u0 t p 7,p+7)else none)
 else some (y,1,p)
def vU (t : ByteArray) (cl : List Int) (many : Nat) : Nat → List Int → Nat → Option (List Int × Nat)
 |0,_,_=>none
 | f + 1, acc, p => if acc.length < many then
     match yG t cl 15 1 0 p with
     |none=>none
     | some (y, p1) => match yK t y acc p1 with
       |none=>none
       |some (n,times,p2)=>vU t cl many f (acc++List.replicate times n) p2
   else if many<acc.length then none else some (acc,p)
def ya (t : ByteArray) (many : Nat) (p : Nat) : Option (List Int × Nat) :=
 if p+4≤8* t.size then
  let k:=u0 t p 4+4
  if p+4+3* k≤8* t.size then
   let cl:=DC t (wC.take k) (p+4) (List.replicate 19 0)
   if vy cl=0 then vU t cl many (8* t.size+1) [] (p+4+3* k)else none
  else none
 else none
theorem Dq {h:H} {t:Bool} {N k:Nat} {cs:List AV} (hN:cs.length=N) (hk:k≤N):rB h 1 (.aU t cs 0 N 1) none (some (I k)) none=some (.aU t cs 0 k 1):=by
 simp [rB,hN,aA,C8 hk]
theorem ET:∀s∈wC,0≤s∧s<19:=by decide
def yi (c:SC):List Int→List Int→SS→List Int×SS
 |[],o,S=>(o,S)
 |s::r,o,S=>yi c r (o.set s.toNat ((uV c 3 S).1:Nat)) (uV c 3 S).2
theorem CX (c:SC):∀(r o:List Int) (S:SS),(yi c r o S).1.length=o.length
 |[],o,S=>rfl
 |s::r,o,S=>by rw[yi,CX c r];simp
theorem DX (c : SC) : ∀ (r o : List Int) (S : SS), (∀ y ∈ o, 0 ≤ y ∧ y < 16) → ∀ y ∈ (yi c r o S).1, 0 ≤ y ∧ y < 16
 |[],o,S,h=>h
 | s :: r, o, S, h => by
   rw[yi]
   refine DX c r _ _ fun y hy=> ?_
   rcases List.mem_or_eq_of_mem_set hy with q|q
   · exact h y q
   · subst q
     have:(uV c 3 S).1<8:=by
      unfold uV;split
      · simpa using vX c.text S.at_ 3
      · simp
     omega
theorem DY (c:SC):∀(r o:List Int) (S:SS),S.e=0→S.at_+3* r.length≤8* c.text.size→yi c r o S=(DC c.text r S.at_ o,{S with at_:=S.at_+3* r.length})
 |[],o,S,he,h=>rfl
 | s :: r, o, S, he, h => by
   rw[Qm]at h
   have eg:uV c 3 S=(u0 c.text S.at_ 3,{S with at_:=S.at_+3}):=by rw[uV,if_pos (by omega)]
   rw[yi,eg]
   dsimp only
   rw[DY c r _ {S with at_:=S.at_+3} he (by dsimp only;omega)]
   simp only[DC,Qm]
   rw[show S.at_+3+3* r.length=S.at_+3* (r.length+1)by omega]
theorem FI (c:SC) (n:Nat) (S:SS) (h:S.e=0∨S.e=700):(uV c n S).2.e=0∨(uV c n S).2.e=700:=by
 unfold uV;split
 · exact h
 · rcases h with h|h<;>simp [vi,h]
theorem HA (c:SC) (n:Nat) (S:SS) (h:S.e=700):(uV c n S).2.e=700:=by
 unfold uV;split
 · exact h
 · simp [vi,h]
theorem BW (c:SC):∀(r o:List Int) (S:SS),S.e=700→(yi c r o S).2.e=700
 |[],o,S,h=>h
 |s::r,o,S,h=>by rw[yi];exact BW c r _ _ (HA c 3 S h)
theorem CW (c:SC):∀(r o:List Int) (S:SS),S.e=0→S.at_≤8* c.text.size→8* c.text.size<S.at_+3* r.length→(yi c r o S).2.e=700
 |[],o,S,he,hle,h=>by simp at h;omega
 | s :: r, o, S, he, hle, h => by
   rw[yi]
   rw[Qm]at h
   by_cases hp:S.at_+3≤8* c.text.size
   · have eg:uV c 3 S=(u0 c.text S.at_ 3,{S with at_:=S.at_+3}):=by rw[uV,if_pos hp]
     rw[eg]
     exact CW c r _ _ he hp (by dsimp only;omega)
   · have eg:uV c 3 S=(0,{S with e:=700}):=by rw[uV,if_neg hp,vi,if_pos he]
     rw[eg]
     exact BW c r _ _ rfl
theorem CY {c:SC} (a:Nat) (x:AV) (xs:List Int) (hxs:∀s∈xs,0≤s∧s<19) (hxl:xs.length≤19) (hac:a≠c.s∧a≠c.r) (m:AV):∀(q p o:List Int) (S:SS) (h:H) (ov:AV),xs=p++q→Rd h x (ints xs)→(∀i,x.id?≠some i)→St c S h ov→ov.id?≠some a→h.get a=some (ints o)→o.length=19→h.floor≤a→
 ∃ e' h', Lp AP.A [0, 1, 5, 18, 19, 20] AP.f64L1 [(0, .aC c.s 0), (1, m), (5, .aC a 0), (18, x), (19, I xs.length), (20, I p.length)] h = some (.exit 0, e', h') ∧ look e' 0 = .aC c.s 0 ∧ look e' 1 = m ∧ look e' 5 = .aC a 0 ∧
   St c (yi c q o S).2 h' ov∧h'.get a=some (ints (yi c q o S).1)∧h'.floor=h.floor∧h.next≤h'.next∧∀i,i<h.next→i≠c.s→i≠c.r→ov.id?≠some i→i≠a→h'.get i=h.get i
 | [], p, o, S, h, ov, hp, rd, hx, st, hoa, hg, ho, hf => by
   rw[Qv]at hp;subst hp
   refine⟨[(0,.aC c.s 0),(1,m),(5,.aC a 0),(18,x),(19,I xs.length),(20,I xs.length),(21,.bool false)],h,sN ?_,rfl,rfl,rfl,st,hg,rfl,ur _,fun _ _ _ _ _ _=>rfl⟩
   have c1:¬(xs.length:Int)<(xs.length:Int):=by omega
   simp only[I]at *
   simp only[AP.f64L1,go_sem,Qn c1]
 | s :: q, p, o, S, h, ov, hp, rd, hx, st, hoa, hg, ho, hf => by
   have hlen:xs.length=p.length+(q.length+1):=by rw[hp];simp
   have c1:(p.length:Int)<(xs.length:Int):=by omega
   have hs:=hxs s (by rw[hp];simp)
   obtain⟨sn,hsn⟩:∃n:Nat,s=n:=QJ hs.1
   subst hsn
   have hv:(ints xs)[p.length]?=some (I sn):=sj (by rw[hp];simp)
   obtain⟨ad,p1,p2⟩:=rd.elem hv
   have p3:=p2 h (fun _ _ q=>q)
   obtain⟨h1,k1,k2,k3⟩:=xJ st 3 3 rfl (by omega)
   have hal:a<h.next:=h.lt _ _ hg
   have hg1:h1.get a=some (ints o):=by rw[k3.Dj a hal hac.1 hac.2 hoa];exact hg
   have a1:da (I sn) 19=some sn:=kf (by omega)
   have hset:(ints o).set sn (I ((uV c 3 S).1:Nat))=ints (o.set sn ((uV c 3 S).1:Nat)):=by simp [ints,List.map_set]
   have hst:tD h1 a sn 1 [I ((uV c 3 S).1:Nat)] (some (ints o))=some (h1.set a (ints (o.set sn ((uV c 3 S).1:Nat)))):=by
    rw[tV (by rw[k3.fl];exact hf) (by rw[o9];omega) rfl,hset]
   have w2:IntKind.wrap .i64 ((p.length:Int)+1)=(((p++[(sn:Int)]).length:Nat):Int):=by
    rw[uN];exact uS (n:=p.length+1) (by omega)
   have step:aK (aQ AP.A) bA AP.f64L1 (ax [(0,.aC c.s 0),(1,m),(5,.aC a 0),(18,x),(19,I xs.length),(20,I p.length)] [0,1,5,18,19,20]) h=some (.normal,[(0,.aC c.s 0),(1,m),(5,.aC a 0),(18,x),(19,I xs.length),(20,I (p++[(sn:Int)]).length)],h1.set a (ints (o.set sn ((uV c 3 S).1:Nat)))):=by
    generalize ints (o.set sn ((uV c 3 S).1:Nat))=W at *
    generalize (p++[(sn:Int)]).length=B at *
    generalize (uV c 3 S).1=G at *
    generalize ints o=OO at *
    simp only[I]at *
    simp only[AP.f64L1,go_sem,Qq c1,p1,p3,k1,a1,hg1,hst,w2]
   have st2:St c (uV c 3 S).2 (h1.set a (ints (o.set sn ((uV c 3 S).1:Nat)))) ov:=k2.vI (by simp) (by simp) fun i hi=>by
    rw[H.dB,if_neg]
    rintro rfl
    rcases hi with hi|hi|hi
    · exact hac.1 hi
    · exact hac.2 hi
    · exact hoa hi
   have rd2:Rd (h1.set a (ints (o.set sn ((uV c 3 S).1:Nat)))) x (ints xs):=by
    refine⟨?_,rd.2⟩
    have:=rd.1
    unfold aR at this ⊢
    split at this
    · exact this
    · exact this
    · exact absurd rfl (hx _)
    · exact this
    · cases this
   obtain⟨e',h',q1,q2,q3,q4,q5,q6,q7,q8,q9⟩:=CY a x xs hxs hxl hac m q (p++[(sn:Int)]) (o.set sn ((uV c 3 S).1:Nat)) _ _ ov (by rw[hp];simp) rd2 hx st2 hoa (by rw[H.dB,if_pos rfl,hg1];rfl) (by simpa using ho) (by simp [k3.fl];exact hf)
   refine⟨e',h',sP step q1,q2,q3,q4, ?_, ?_,by rw[q7];simp [k3.fl],by have:=k3.nx;simp at q8;omega,fun i i1 i2 i3 i4 i5=> ?_⟩
   · rw[yi];exact q5
   · rw[yi];exact q6
   · rw[q9 i (by have:=k3.nx;simp;omega) i2 i3 i4 i5,H.dB,if_neg i5,k3.Dj i i1 i2 i3 i4]
theorem xc {c:SC} {S:SS} {h:H} {ov:AV} (st:St c S h ov) (b:AV) (many:Nat) {av:AV} {acc:List Int} (oa:mW h av (ints acc)) (hs:many≤acc.length∨(acc.length<many∧S.e≠0)):
 ∃e',Lp AP.A [0,1,9,10] AP.f64L0 [(0,.aC c.s 0),(1,I many),(9,b),(10,av)] h=some (.exit 2,e',h)∧look e' 0=.aC c.s 0∧look e' 1=I many∧look e' 10=av:=by
 have gs:=st.gs
 have ln:=oa.len
 rw[o9]at ln
 refine⟨[(0,.aC c.s 0),(1,I many),(9,b),(10,av),(46,.bool false)],sN ?_,rfl,rfl,rfl⟩
 rcases hs with hs|⟨hs,he⟩
 · have c1:¬(acc.length:Int)<many:=by omega
   simp only[I]at *
   simp only[AP.f64L0,go_sem,ln,Qn c1]
 · have c1:(acc.length:Int)<many:=by omega
   have c2:=tH he
   simp only[I]at *
   simp only[AP.f64L0,go_sem,ln,Qq c1,gs,c2]
theorem En {c : SC} {S : SS} {y : Int} {acc : List Int} (he : S.e = 0) :
 match yK c.text y acc S.at_ with
 |some (n,times,p)=>vA c y acc S=((n,times),{S with at_:=p})∧S.at_≤p
 |none=>(vA c y acc S).2.e=700:=by
 unfold yK vA
 by_cases h16:y=16
 · rw[if_pos h16,if_pos h16]
   by_cases hn:acc=[]
   · rw[if_pos hn,if_pos hn];simp [vi,he]
   · rw[if_neg hn,if_neg hn]
     by_cases hp:S.at_+2≤8* c.text.size
     · simp [uV,hp]
     · simp [uV,hp,vi,he]
 · rw [if_neg h16, if_neg h16]
   by_cases h17:y=17
   · rw[if_pos h17,if_pos h17]
     by_cases hp:S.at_+3≤8* c.text.size
     · simp [uV,hp]
     · simp [uV,hp,vi,he]
   · rw[if_neg h17,if_neg h17]
     by_cases h18:y=18
     · rw[if_pos h18,if_pos h18]
       by_cases hp:S.at_+7≤8* c.text.size
       · simp [uV,hp]
       · simp [uV,hp,vi,he]
     · rw[if_neg h18,if_neg h18]
       exact⟨rfl,ur _⟩
theorem BC (c:SC) (y:Int) (acc:List Int) (S:SS):(vA c y acc S).1.2<70000:=by
 unfold vA
 have h2:=yx c S 2 (by omega)
 have h3:=yx c S 3 (by omega)
 have h7:=yx c S 7 (by omega)
 repeat' split
 all_goals (dsimp only;omega)
theorem Bi {c : SC} (h0 : H) (cl : List Int) (hcl : cl.length < 100000) (many : Nat) (hm : many ≤ 400) : ∀ (f : Nat) (acc : List Int) (S : SS) (h : H) (ov av : AV), St c S h ov → S.e = 0 → 8 * c.text.size < S.at_ + f → Fr c h0 ov h ov → mW h av (ints acc) → acc.length < 80000 → (∀ i, av.id? = some i → h0.next ≤ i) → (∀ i, (i = c.s ∨ i = c.r ∨ ov.id? = some i) → i < h0.next) →
 ∃ e' h' S' av' acc', Lp AP.A [0, 1, 9, 10] AP.f64L0 [(0, .aC c.s 0), (1, I many), (9, vg cl), (10, av)] h = some (.exit 2, e', h') ∧ look e' 0 = .aC c.s 0 ∧ look e' 1 = I many ∧ look e' 10 = av' ∧ St c S' h' ov ∧ Fr c h0 ov h' ov ∧ mW h' av' (ints acc') ∧ acc'.length < 200000 ∧ (∀ i, av'.id? = some i → h0.next ≤ i) ∧
   match vU c.text cl many f acc S.at_ with
   |some (L,p)=>S'={S with at_:=p}∧acc'=L∧L.length=many
   |none=>S'.e=700∨(S'.e=0∧many<acc'.length)
 |0,acc,S,h,ov,av,st,he,hk,fr,oa,hal,hid,hlo=>by have:=st.xD;omega
 | f + 1, acc, S, h, ov, av, st, he, hk, fr, oa, hal, hid, hlo => by
   by_cases hlt:acc.length<many
   · rw [vU, if_pos hlt]
     have gs:=st.gs
     have ln:=oa.len
     rw[o9]at ln
     have c1:(acc.length:Int)<many:=by omega
     obtain⟨h1,S1,y,s1,s2,s3,s4⟩:=AN cl hcl st he
     have hneq:∀i,av.id?=some i→i≠c.s∧i≠c.r∧ov.id?≠some i:=fun i hi=>by
      have:=hid i hi
      refine⟨fun e=> ?_,fun e=> ?_,fun e=> ?_⟩
      · have:=hlo i (.inl e);omega
      · have:=hlo i (.inr (.inl e));omega
      · have:=hlo i (.inr (.inr e));omega
     have oa1:mW h1 av (ints acc):=oa.mono s3.fl fun i hi=>s3.Dj i (oa.lt hi) (hneq i hi).1 (hneq i hi).2.1 (hneq i hi).2.2
     obtain⟨h2,r1,r2,r3⟩:=GZ s2 y oa1 (by omega) hneq
     have oa2:mW h2 av (ints acc):=oa1.mono r3.fl fun i hi=>r3.Dj i (oa1.lt hi) (hneq i hi).1 (hneq i hi).2.1 (hneq i hi).2.2
     obtain⟨n,hn⟩:∃n,n=(vA c y acc S1).1.1:=⟨_,rfl⟩
     obtain⟨times,htm⟩:∃n,n=(vA c y acc S1).1.2:=⟨_,rfl⟩
     obtain⟨S2,hS2⟩:∃n,n=(vA c y acc S1).2:=⟨_,rfl⟩
     have htb:=BC c y acc S1
     rw[←hn,←htm]at r1;rw[←hS2]at r2;rw[←htm]at htb
     have al:=r2.alloc [I n]
     have rp:=xM (h2.alloc [I n]) (.aD h2.next 0 1 1) n times (by omega) (yC _ _)
     have oa3:mW (h2.alloc [I n]) av (ints acc):=oa2.mono (by simp) fun i hi=>by
      have:=oa2.lt hi;rw[H.aV,if_neg (by omega)]
     have hfr3:=((fr.trans s3).trans r3).trans al.2
     have hap:∃v' h3,kz (h2.alloc [I n]) 1 8 av (.aU false (ints (List.replicate times n)) 0 times 1)=some (v',h3)∧mW h3 v' (ints (acc++List.replicate times n))∧St c S2 h3 ov∧Fr c h0 ov h3 ov∧∀i,v'.id?=some i→h0.next≤i:=by
      have src:aR (h2.alloc [I n]) 1 (.aU false (ints (List.replicate times n)) 0 times 1)=some (times,ints (List.replicate times n)):=by
       simp [aR,uI]
      by_cases ht0:times=0
      · subst ht0
        refine⟨av,h2.alloc [I n], ?_,by simpa using oa3,al.1,hfr3,hid⟩
        unfold kz
        rw[src,um]
        unfold dP
        rw[if_pos rfl]
        rcases oa3 with ⟨rfl,_⟩|⟨id,rfl,_⟩<;>rfl
      · have hnx:=al.1.nx
        obtain⟨v',h3,q1,q2,q3,q4,q5,q6⟩:=oa3.apps hnx (z:=8) (ints (List.replicate times n)) (jH _) (by simp;omega) (by simp [roomy];omega)
        refine⟨v',h3, ?_,by rw[o8];exact q2,al.1.vI q3 q4 fun i hi=> ?_,⟨q3.trans hfr3.fl,uL hfr3.nx q4,fun id i1 i2 i3 i4=> ?_,fun i hi=>.inl hi⟩,fun i hi=> ?_⟩
        · unfold kz
          rw[src,um]
          have hl:(ints (List.replicate times n)).length=times:=by simp
          rw[hl]at q1;exact q1
        · have hlt0:=hlo i hi
          have hle:h0.next≤(h2.alloc [I n]).next:=hfr3.nx
          exact q5 i (fun e=>by have:=hid i e;omega) (by omega)
        · have hle:h0.next≤(h2.alloc [I n]).next:=hfr3.nx
          rw[q5 id (fun e=>by have:=hid id e;omega) (by omega)]
          exact hfr3.Dj id i1 i2 i3 i4
        · rw[q6]at hi;cases hi;exact hfr3.nx
     obtain⟨v',h3,ap1,ap2,ap3,ap4,ap5⟩:=hap
     have step:aK (aQ AP.A) bA AP.f64L0 (ax [(0,.aC c.s 0),(1,I many),(9,vg cl),(10,av)] [0,1,9,10]) h=some (.normal,[(0,.aC c.s 0),(1,I many),(9,vg cl),(10,v')],h3):=by
      have bs:∀(e:Env),look e 57=.int .i64 n→aX e (.cP 1 1 [.int .i64 0] [(0,.t 57)])=some ([.int .i64 n],fun i=>.aD i 0 1 1):=by
       intro e q
       simp only[aX,Qz,List.map_nil,rK,q];rfl
      simp only[I]at *
      simp only[AP.f64L0,go_sem,ln,Qq c1,gs,he,s1,r1]
      rw[bs _ rfl]
      simp only[go_sem,rp,ap1]
     have hacc':(acc++List.replicate times n).length<80000:=by simp;omega
     cases hz:yG c.text cl 15 1 0 S.at_ with
     | none =>
       rw[hz]at s4
       obtain⟨s4,s5⟩:=s4
       have hy:y=256:=s5
       have hag:vA c y acc S1=((y,1),S1):=by rw[vA,if_neg (by omega),if_neg (by omega),if_neg (by omega)]
       have hS2e:S2.e=700:=by rw[hS2,hag];exact s4
       dsimp only
       by_cases hlt2:(acc++List.replicate times n).length<many
       · obtain⟨e',q1,q2,q3,q4⟩:=xc ap3 (vg cl) many ap2 (.inr ⟨hlt2,by rw[hS2e];decide⟩)
         exact⟨e',h3,S2,v',_,sP step q1,q2,q3,q4,ap3,ap4,ap2,by omega,ap5,.inl hS2e⟩
       · obtain⟨e',q1,q2,q3,q4⟩:=xc ap3 (vg cl) many ap2 (.inl (by omega))
         exact⟨e',h3,S2,v',_,sP step q1,q2,q3,q4,ap3,ap4,ap2,by omega,ap5,.inl hS2e⟩
     | some yp =>
       obtain⟨z,p1⟩:=yp
       rw[hz]at s4
       obtain⟨s4,s5⟩:=s4
       subst s5 s4
       have zb:=xy hz
       have hok:=En (c:=c) (S:={S with at_:=p1}) (y:=y) (acc:=acc) he
       dsimp only at hok ⊢
       cases ha:yK c.text y acc p1 with
       | none =>
         rw[ha]at hok
         have hS2e:S2.e=700:=by rw[hS2];exact hok
         dsimp only
         by_cases hlt2:(acc++List.replicate times n).length<many
         · obtain⟨e',q1,q2,q3,q4⟩:=xc ap3 (vg cl) many ap2 (.inr ⟨hlt2,by rw[hS2e];decide⟩)
           exact⟨e',h3,S2,v',_,sP step q1,q2,q3,q4,ap3,ap4,ap2,by omega,ap5,.inl hS2e⟩
         · obtain⟨e',q1,q2,q3,q4⟩:=xc ap3 (vg cl) many ap2 (.inl (by omega))
           exact⟨e',h3,S2,v',_,sP step q1,q2,q3,q4,ap3,ap4,ap2,by omega,ap5,.inl hS2e⟩
       | some q =>
         obtain⟨n2,t2,p2⟩:=q
         rw[ha]at hok
         obtain⟨hok,hp12⟩:=hok
         rw[hok]at hn htm hS2
         dsimp only at hn htm hS2
         subst hn htm hS2
         obtain⟨e',h',S',av',acc',q1,q2,q3,q4,q5,q6,q7,q8,q9,q10⟩:=Bi h0 cl hcl many hm f (acc++List.replicate times n) _ h3 ov v' ap3 he (by dsimp only;omega) ap4 ap2 hacc' ap5 hlo
         exact⟨e',h',S',av',acc',sP step q1,q2,q3,q4,q5,q6,q7,q8,q9,q10⟩
   · obtain⟨e',q1,q2,q3,q4⟩:=xc st (vg cl) many oa (.inl (by omega))
     refine⟨e',h,S,av,acc,q1,q2,q3,q4,st,fr,oa,by omega,hid, ?_⟩
     rw[vU,if_neg hlt]
     by_cases hgt:many<acc.length
     · rw[if_pos hgt];exact .inr ⟨he,hgt⟩
     · rw[if_neg hgt];exact⟨rfl,rfl,by omega⟩
theorem EK {c : SC} {S : SS} {h : H} {ov : AV} (st : St c S h ov) (he : S.e = 0) (many : Nat) (hm0 : 0 < many) (hm : many ≤ 400) :
 ∃ h' S' av acc, aQ AP.A 64 [.aC c.s 0, I many] h = some (av, h') ∧ St c S' h' ov ∧ Fr c h ov h' ov ∧ mW h' av (ints acc) ∧ (∀ i, av.id? = some i → h.next ≤ i) ∧ match ya c.text many S.at_ with
   |some (L,p)=>S'={S with at_:=p}∧acc=L∧L.length=many
   |none=>S'.e=700:=by
 have gs:=st.gs
 obtain⟨a,ha⟩:∃a,a=h.next:=⟨_,rfl⟩
 obtain⟨g0,hg0⟩:∃g,g=h.alloc (ints (List.replicate 19 0)):=⟨_,rfl⟩
 have al:=st.alloc (ints (List.replicate 19 0))
 rw[←hg0]at al
 have hga:g0.get a=some (ints (List.replicate 19 0)):=by rw[hg0,H.aV,if_pos ha]
 have oc:=HN g0
 obtain⟨h1,k1,k2,k3⟩:=xJ al.1 4 4 rfl (by omega)
 obtain⟨G,hG⟩:∃G,G=(uV c 4 S).1:=⟨_,rfl⟩
 obtain⟨S1,hS1⟩:∃G,G=(uV c 4 S).2:=⟨_,rfl⟩
 rw[←hG]at k1;rw[←hS1]at k2
 have hG16:G<16:=by
  rw[hG];unfold uV;split
  · simpa using vX c.text S.at_ 4
  · simp
 have w1:IntKind.wrap .i64 ((G:Int)+4)=((G+4:Nat):Int):=uS (n:=G+4) (by omega)
 obtain⟨x,hx⟩:∃x,x=AV.aU false (ints wC) 0 (G+4) 1:=⟨_,rfl⟩
 have sl:rB h1 1 (xK wC) none (some (I (G+4:Nat))) none=some x:=by
  rw[hx];exact Dq (by rw[o9]) (by show G+4≤19;omega)
 have xl:iY false x=some (I (G+4:Nat)):=by rw[hx];rfl
 obtain⟨xs,hxs⟩:∃xs,xs=wC.take (G+4):=⟨_,rfl⟩
 have hol:wC.length=19:=rfl
 have hxsl:xs.length=G+4:=by rw[hxs,List.length_take,hol];omega
 have rdx:Rd h1 x (ints xs):=by
  refine⟨?_,by rw[hx];intro s e;cases e⟩
  have ht:(ints wC).take (G+4)=ints xs:=by rw[hxs];simp [ints,List.map_take]
  simp only[aR,hx,if_true]
  rw[if_pos (by rw[o9,hol];omega),Qs,QM,ht];simp [hxsl]
 have hac:a≠c.s∧a≠c.r:=⟨fun e=>by have:=st.lt (.inl e);omega,fun e=>by have:=st.lt (.inr (.inl e));omega⟩
 have hoa:ov.id?≠some a:=fun e=>by have:=st.lt (.inr (.inr e));omega
 have hga1:h1.get a=some (ints (List.replicate 19 0)):=by rw[k3.Dj a (g0.lt _ _ hga) hac.1 hac.2 hoa];exact hga
 have hfa:h1.floor≤a:=by rw[k3.fl,hg0,ha];simp;exact st.nx
 obtain⟨e2,h2,l1,l2,l3,l4,l5,l6,l7,l8,l9⟩:=CY (c:=c) a x xs (fun s hs=>ET s (List.mem_of_mem_take (hxs ▸ hs))) (by omega) hac (I many) xs [] (List.replicate 19 0) S1 h1 ov rfl rdx (by rw[hx];intro i e;cases e) k2 hoa hga1 (by simp) hfa
 obtain⟨cl,hcl⟩:∃cl,cl=(yi c xs (List.replicate 19 0) S1).1:=⟨_,rfl⟩
 obtain⟨S2,hS2⟩:∃cl,cl=(yi c xs (List.replicate 19 0) S1).2:=⟨_,rfl⟩
 rw[←hS2]at l5;rw[←hcl]at l6
 have hcll:cl.length=19:=by rw[hcl,CX];simp
 have hclb:∀y∈cl,0≤y∧y<16:=by
  rw[hcl];refine DX c _ _ _ fun y hy=> ?_
  obtain⟨_,rfl⟩:=List.mem_replicate.1 hy;omega
 rw[hxsl]at l1
 have l1':Lp AP.A [0,1,5,18,19,20] AP.f64L1 [(0,.aC c.s 0),(1,I many),(5,.aC a 0),(18,x),(19,I (G+4:Nat)),(20,I 0)] h1=some (.exit 0,e2,h2):=l1
 clear l1
 have fr2:Fr c h ov h2 ov:=by
  refine⟨by rw[l7,k3.fl,al.2.fl], ?_,fun id i1 i2 i3 i4=> ?_,fun i hi=>.inl hi⟩
  · have:=al.2.nx;have:=k3.nx;omega
  · have hn0:g0.next=h.next+1:=by rw[hg0];simp
    have:=k3.nx
    rw[l9 id (by omega) i2 i3 i4 (by omega),k3.Dj id (by omega) i2 i3 i4,al.2.Dj id i1 i2 i3 i4]
 have ri:lY h2 19 1 (.aC a 0) none none=some (.aD a 0 19 1):=by
  simp [lY,l6,aA,hcll]
 have gY:Rd h2 (.aD a 0 19 1) (ints cl):=by
  refine⟨?_,by intro s e;cases e⟩
  simp [aR,l6,hcll,uI]
 have ck:=BH h2 (.aD a 0 19 1) cl (by omega) gY
 have mk:=yV h2 (.aD a 0 19 1) cl (by omega) hclb gY
 have hhead:(vy cl=0∧S2.e=0∧S.at_+4≤8* c.text.size∧S.at_+4+3* (u0 c.text S.at_ 4+4)≤8* c.text.size∧cl=DC c.text (wC.take (u0 c.text S.at_ 4+4)) (S.at_+4) (List.replicate 19 0)∧S2={S with at_:=S.at_+4+3* (u0 c.text S.at_ 4+4)})∨((vy cl≠0∨S2.e≠0)∧(S2.e=0∨S2.e=700)∧ya c.text many S.at_=none):=by
  by_cases hp:S.at_+4≤8* c.text.size
  · have eg:uV c 4 S=(u0 c.text S.at_ 4,{S with at_:=S.at_+4}):=by rw[uV,if_pos hp]
    rw[eg]at hG hS1;dsimp only at hG hS1
    subst hS1
    by_cases hp2:S.at_+4+3* (u0 c.text S.at_ 4+4)≤8* c.text.size
    · have ok:=DY c xs (List.replicate 19 0) {S with at_:=S.at_+4} he (by dsimp only;omega)
      rw[ok]at hcl hS2
      dsimp only at hcl hS2
      rw[hxsl,hG]at hS2
      rw[hxs,hG]at hcl
      by_cases hck:vy cl=0
      · exact .inl ⟨hck,by rw[hS2];exact he,hp,hp2,hcl,hS2⟩
      · refine .inr ⟨.inl hck,.inl (by rw[hS2];exact he), ?_⟩
        rw[ya,if_pos hp];dsimp only;rw[if_pos hp2,←hcl,if_neg hck]
    · have hb:=CW c xs (List.replicate 19 0) {S with at_:=S.at_+4} he (by dsimp only;omega) (by dsimp only;omega)
      rw[←hS2]at hb
      refine .inr ⟨.inr (by rw[hb];decide),.inr hb, ?_⟩
      rw[ya,if_pos hp];dsimp only;rw[if_neg hp2]
  · have eg:uV c 4 S=(0,{S with e:=700}):=by rw[uV,if_neg hp,vi,if_pos he]
    rw[eg]at hS1;dsimp only at hS1
    have hb:=BW c xs (List.replicate 19 0) S1 (by rw[hS1])
    rw[←hS2]at hb
    exact .inr ⟨.inr (by rw[hb];decide),.inr hb,by rw[ya,if_neg hp]⟩
 have hbk:∀(h3:H) (S3:SS),St c S3 h3 ov→Fr c h ov h3 ov→aQ AP.A 41 [.aD a 0 19 1] h3=some (vg cl,h3)→lY h3 19 1 (.aC a 0) none none=some (.aD a 0 19 1)→
  (aK (aQ AP.A) bA (.cond (.t 31) (.oD [⟨some 32,.mv (.t 0),none⟩,⟨some 33,.call (.c (.fn 45 [] [])) [(.t 32),(.c (.int .i64 700))],none⟩] [0,1,5]) .skip [0,1,5]) [(0,.aC c.s 0),(1,I many),(5,.aC a 0),(31,.bool (vy cl !=0))] h2=some (.normal,[(0,.aC c.s 0),(1,I many),(5,.aC a 0)],h3))→
  ∀(e4:Env) (h4:H) (av:AV) (acc:List Int) (h5:H),Lp AP.A [0,1,9,10] AP.f64L0 [(0,.aC c.s 0),(1,I many),(9,vg cl),(10,.aO)] h3=some (.exit 2,e4,h4)→look e4 0=.aC c.s 0→look e4 1=I many→look e4 10=av→iY false av=some (I acc.length)→
  (many<acc.length→aQ AP.A 45 [.aC c.s 0,I 700] h4=some (.bO [],h5))→(¬many<acc.length→h5=h4)→aQ AP.A 64 [.aC c.s 0,I many] h=some (av,h5):=by
  intro h3 S3 st3 fr3 mk3 sla3 cnd e4 h4 av acc h5 m1 m2 m3 m4 m5 m6 m7
  refine ta (fn:=AP.f64) (e:=[(4,av)]) (vs:=[av]) rfl rfl rfl ?_ rfl
  have bt:∀e:Env,aX e (.alloc [.int .i64 0,.int .i64 0,.int .i64 0,.int .i64 0,.int .i64 0,.int .i64 0,.int .i64 0,.int .i64 0,.int .i64 0,.int .i64 0,.int .i64 0,.int .i64 0,.int .i64 0,.int .i64 0,.int .i64 0,.int .i64 0,.int .i64 0,.int .i64 0,.int .i64 0])=some (ints (List.replicate 19 0),fun i=>.aC i 0):=fun _=>rfl
  unfold AP.f64
  refine tS (e1:=[(0,.aC c.s 0),(1,I many)]) (h1:=h) rfl ?_
  refine tS (e1:=[(0,.aC c.s 0),(1,I many),(5,.aC a 0)]) (h1:=g0) ?_ ?_
  · simp only[go_sem,bt,←hg0,←ha]
  refine tS (e1:=[(0,.aC c.s 0),(1,I many),(5,.aC a 0),(6,xK wC)]) (h1:=g0) ?_ ?_
  · simp only[go_sem,oc]
  refine tS (e1:=[(0,.aC c.s 0),(1,I many),(5,.aC a 0)]) (h1:=h2) ?_ ?_
  · clear bt
    simp only[I]at *
    simp only[go_sem,k1,w1,Qp,QC,sl,xl,rH,l1',l2,l3,l4]
  refine tS (e1:=[(0,.aC c.s 0),(1,I many),(5,.aC a 0)]) (h1:=h3) ?_ ?_
  · refine tS (e1:=[(0,.aC c.s 0),(1,I many),(5,.aC a 0),(31,.bool (vy cl !=0))]) (h1:=h2) ?_ cnd
    simp only[I]at *
    simp only[go_sem,QC,ri,ck]
  refine tS (e1:=[(0,.aC c.s 0),(1,I many),(9,vg cl)]) (h1:=h3) ?_ ?_
  · simp only[go_sem,QC,sla3,mk3]
  refine tS (e1:=[(0,.aC c.s 0),(1,I many),(9,vg cl),(10,.aO)]) (h1:=h3) rfl ?_
  refine tS (e1:=[(0,.aC c.s 0),(1,I many),(10,av)]) (h1:=h4) ?_ ?_
  · simp only[go_sem,rH,m1,m2,m3,m4]
  refine tS (e1:=[(10,av)]) (h1:=h5) ?_ ?_
  · by_cases hgt:many<acc.length
    · have c1:(many:Int)<(acc.length:Int):=by omega
      have m6':=m6 hgt
      clear m6 m7
      simp only[I]at *
      simp only[go_sem,m5,Qq c1,m6']
    · have c1:¬(many:Int)<(acc.length:Int):=by omega
      have m7':=m7 hgt
      subst m7'
      clear m6 m7
      simp only[I]at *
      simp only[go_sem,m5,Qn c1]
  simp only[go_sem]
 rcases hhead with ⟨hck,he2,hp,hp2,hcl2,hS22⟩|⟨hbad,he2,hnone⟩
 · have hlen0:ya c.text many S.at_=vU c.text cl many (8* c.text.size+1) [] S2.at_:=by
    rw[ya,if_pos hp];dsimp only;rw[if_pos hp2,←hcl2,if_pos hck,hS22]
   have cnd:aK (aQ AP.A) bA (.cond (.t 31) (.oD [⟨some 32,.mv (.t 0),none⟩,⟨some 33,.call (.c (.fn 45 [] [])) [(.t 32),(.c (.int .i64 700))],none⟩] [0,1,5]) .skip [0,1,5]) [(0,.aC c.s 0),(1,I many),(5,.aC a 0),(31,.bool (vy cl !=0))] h2=some (.normal,[(0,.aC c.s 0),(1,I many),(5,.aC a 0)],h2):=by
    have cb:(vy cl !=0)=false:=tJ hck
    simp only[go_sem,cb]
   obtain⟨e4,h4,S4,av,acc,m1,m2,m3,m4,m5,m6,m7,m8,m9,m10⟩:=Bi h cl (by omega) many hm (8* c.text.size+1) [] S2 h2 ov .aO l5 he2 (by omega) fr2 (.inl ⟨rfl,rfl⟩) (by simp) (fun i q=>by cases q) (fun i hi=>st.lt hi)
   have ln:=m7.len
   rw[o9]at ln
   rw[hlen0]
   cases hL:vU c.text cl many (8* c.text.size+1) [] S2.at_ with
   | some q =>
     obtain⟨L,p⟩:=q
     rw[hL]at m10
     obtain⟨n1,n2,n3⟩:=m10
     have hng:¬many<acc.length:=by rw[n2];omega
     refine⟨h4,S4,av,acc,hbk h2 S2 l5 fr2 mk ri cnd e4 h4 av acc h4 m1 m2 m3 m4 ln (fun q=>absurd q hng) (fun _=>rfl),m5,m6,m7,m9, ?_,n2,n3⟩
     rw[n1,hS22]
   | none =>
     rw[hL]at m10
     dsimp only at m10 ⊢
     by_cases hgt:many<acc.length
     · obtain⟨h5,f1,f2,f3⟩:=wx m5 700
       refine⟨h5,vi 700 S4,av,acc,hbk h2 S2 l5 fr2 mk ri cnd e4 h4 av acc h5 m1 m2 m3 m4 ln (fun _=>f1) (fun q=>absurd hgt q),f2,m6.trans f3, ?_,m9, ?_⟩
       · refine m7.mono f3.fl fun i hi=>f3.Dj i (m7.lt hi) (fun e=> ?_) (fun e=> ?_) (fun e=> ?_)
         · have:=m9 i hi;have:=st.lt (.inl e);omega
         · have:=m9 i hi;have:=st.lt (.inr (.inl e));omega
         · have:=m9 i hi;have:=st.lt (.inr (.inr e));omega
       · rcases m10 with q|⟨q,_⟩<;>simp [vi,q]
     · refine⟨h4,S4,av,acc,hbk h2 S2 l5 fr2 mk ri cnd e4 h4 av acc h4 m1 m2 m3 m4 ln (fun q=>absurd q hgt) (fun _=>rfl),m5,m6,m7,m9, ?_⟩
       rcases m10 with q|⟨_,q⟩
       · exact q
       · exact absurd q hgt
 · rw [hnone]
   have key:∃h3 S3,St c S3 h3 ov∧Fr c h ov h3 ov∧S3.e=700∧h3.get a=some (ints cl)∧aK (aQ AP.A) bA (.cond (.t 31) (.oD [⟨some 32,.mv (.t 0),none⟩,⟨some 33,.call (.c (.fn 45 [] [])) [(.t 32),(.c (.int .i64 700))],none⟩] [0,1,5]) .skip [0,1,5]) [(0,.aC c.s 0),(1,I many),(5,.aC a 0),(31,.bool (vy cl !=0))] h2=some (.normal,[(0,.aC c.s 0),(1,I many),(5,.aC a 0)],h3):=by
    by_cases hck:vy cl=0
    · have hb:S2.e≠0:=by rcases hbad with q|q;exact absurd hck q;exact q
      refine⟨h2,S2,l5,fr2,by rcases he2 with q|q;exact absurd q hb;exact q,l6, ?_⟩
      have cb:(vy cl !=0)=false:=tJ hck
      simp only[go_sem,cb]
    · obtain⟨h3,f1,f2,f3⟩:=wx l5 700
      refine⟨h3,vi 700 S2,f2,fr2.trans f3,by rcases he2 with q|q<;>simp [vi,q],by rw[f3.Dj a (h2.lt _ _ l6) hac.1 hac.2 hoa];exact l6, ?_⟩
      have cb:(vy cl !=0)=true:=tK hck
      simp only[I]at *
      simp only[go_sem,cb,f1]
   obtain⟨h3,S3,st3,fr3,he3,hg3,cnd⟩:=key
   have sla3:lY h3 19 1 (.aC a 0) none none=some (.aD a 0 19 1):=by
    simp [lY,hg3,aA,hcll]
   have rdc3:Rd h3 (.aD a 0 19 1) (ints cl):=by
    refine⟨?_,by intro s e;cases e⟩
    simp [aR,hg3,hcll,uI]
   have mk3:=yV h3 (.aD a 0 19 1) cl (by omega) hclb rdc3
   obtain⟨e4,m1,m2,m3,m4⟩:=xc st3 (vg cl) many (av:=.aO) (acc:=[]) (.inl ⟨rfl,rfl⟩) (.inr ⟨by simpa using hm0,by rw[he3];decide⟩)
   exact⟨h3,S3,.aO,[],hbk h3 S3 st3 fr3 mk3 sla3 cnd e4 h3 .aO [] h3 m1 m2 m3 m4 rfl (fun q=>by simp at q) (fun _=>rfl),st3,fr3,.inl ⟨rfl,rfl⟩,(fun i q=>by cases q),he3⟩
def yh (l:List Int):Prop:=∀y∈l,0≤y∧y<16
theorem Dm {t : ByteArray} {y : Int} {acc : List Int} {n : Int} {q times p2 : Nat} (hy : 0 ≤ y ∧ y < 19) (ha : yh acc) (h : yK t y acc q = some (n, times, p2)) : 0 ≤ n ∧ n < 16 := by
 unfold yK at h
 split at h
 · split at h
   · cases h
   · rename_i hn
     split at h
     · have:=QN (fun o=>o.map (·.1)) h
       simp only[Qp,uh]at this
       rw[←this]
       have hl:0<acc.length:=QK.2 hn
       refine ha _ ?_
       rw[List.getD_eq_getElem?_getD,QD (by omega)]
       exact List.getElem_mem _
     · cases h
 · split at h
   · split at h
     · have:=QN (fun o=>o.map (·.1)) h
       simp only[Qp,uh]at this;omega
     · cases h
   · split at h
     · split at h
       · have:=QN (fun o=>o.map (·.1)) h
         simp only[Qp,uh]at this;omega
       · cases h
     · have:=QN (fun o=>o.map (·.1)) h
       simp only[Qp,uh]at this;omega
theorem zj {t : ByteArray} {cl : List Int} (hcl : cl.length = 19) {many : Nat} : ∀ {f : Nat} {acc : List Int} {p : Nat} {L : List Int} {p2 : Nat}, yh acc → vU t cl many f acc p = some (L, p2) → yh L
 |0,_,_,_,_,_,h=>by cases h
 | f + 1, acc, p, L, p2, ha, h => by
   rw[vU]at h
   split at h
   · split at h
     · cases h
     · rename_i y p1 hs
       have sb:=xy hs
       split at h
       · cases h
       · rename_i n times q hag
         have hr:=Dm ⟨sb.1,by omega⟩ ha hag
         exact zj hcl (fun y hy=>by
          rcases List.mem_append.1 hy with hy|hy
          · exact ha y hy
          · obtain⟨_,rfl⟩:=List.mem_replicate.1 hy;exact hr) h
   · split at h
     · cases h
     · have:=QN (fun o=>o.map (·.1)) h
       simp only[Qp,uh]at this;rw[←this];exact ha
theorem CV (t:ByteArray):∀(r:List Int) (p:Nat) (o:List Int),(DC t r p o).length=o.length
 |[],_,_=>rfl
 |s::r,p,o=>by rw[DC,CV t r];simp
theorem EL {t:ByteArray} {many p:Nat} {L:List Int} {p2:Nat} (h:ya t many p=some (L,p2)):yh L:=by
 unfold ya at h
 split at h
 · dsimp only at h
   split at h
   · split at h
     · exact zj (by rw[CV];simp) (fun y hy=>by cases hy) h
     · cases h
   · cases h
 · cases h
def EC (t : ByteArray) (most : Int) (p : Nat) (out : List Nat) : Rs :=
 if p+10≤8* t.size then
  let lits:=u0 t p 5+257
  let dists:=u0 t (p+5) 5+1
  if 286<lits∨30<dists then .error 700 else
  match ya t (lits+dists) (p+10)with
  |none=>.error 700
  | some (L, p2) =>
    if vy (L.take lits)≠0∨(L.take lits).getD 256 0=0∨(vy (L.drop lits)≠0∧xb (L.drop lits)=false)then .error 700
    else xg t most (L.take lits) (L.drop lits) (8* t.size+1) p2 out
 else .error 700
theorem ED {c : SC} {S : SS} {h : H} {ov : AV} (st : St c S h ov) (he : S.e = 0) :
 ∃h' ov' S',aQ AP.A 44 [.aC c.s 0] h=some (.bO [],h')∧St c S' h' ov'∧Fr c h ov h' ov'∧Fin (EC c.text c.most S.at_ S.out) S':=by
 obtain⟨h1,a1,a2,a3⟩:=xJ st 5 5 rfl (by omega)
 obtain⟨h2,b1,b2,b3⟩:=xJ a2 5 5 rfl (by omega)
 obtain⟨A,hA⟩:∃n,n=(uV c 5 S).1:=⟨_,rfl⟩
 obtain⟨S1,hS1⟩:∃n,n=(uV c 5 S).2:=⟨_,rfl⟩
 rw[←hA]at a1;rw[←hS1]at a2 b1 b2
 obtain⟨B,hB⟩:∃n,n=(uV c 5 S1).1:=⟨_,rfl⟩
 obtain⟨S2,hS2⟩:∃n,n=(uV c 5 S1).2:=⟨_,rfl⟩
 rw[←hB]at b1;rw[←hS2]at b2
 have g5:∀S,(uV c 5 S).1<32:=fun S=>by
  unfold uV;split
  · simpa using vX c.text S.at_ 5
  · simp
 have hA32:A<32:=hA ▸ g5 S
 have hB32:B<32:=hB ▸ g5 S1
 have w1:IntKind.wrap .i64 ((A:Int)+257)=((A+257:Nat):Int):=uS (n:=A+257) (by omega)
 have w2:IntKind.wrap .i64 ((B:Int)+1)=((B+1:Nat):Int):=uS (n:=B+1) (by omega)
 have gs2:=b2.gs
 have he2:S2.e=0∨S2.e=700:=by rw[hS2];exact FI c 5 _ (by rw[hS1];exact FI c 5 S (.inl he))
 have fr2:=a3.trans b3
 have bad:(S2.e≠0∨286<A+257∨30<B+1)→∃h' ov' S',aQ AP.A 44 [.aC c.s 0] h=some (.bO [],h')∧St c S' h' ov'∧Fr c h ov h' ov'∧S'.e=700∧(700:Int)≠0:=by
  intro hb
  obtain⟨h3,f1,f2,f3⟩:=wx b2 700
  refine⟨h3,ov,vi 700 S2, ?_,f2,fr2.trans f3,by rcases he2 with q|q<;>simp [vi,q],by decide⟩
  refine ta (fn:=AP.f44) (e:=[]) (vs:=[]) rfl rfl rfl ?_ rfl
  by_cases c1:S2.e=0
  · have c1':=tJ c1
    by_cases c2:286<A+257
    · have c2':(286:Int)<((A+257:Nat):Int):=by omega
      simp only[I]at *
      simp only[AP.f44,go_sem,a1,b1,w1,w2,gs2,c1',Qq c2',f1]
    · have c2':¬(286:Int)<((A+257:Nat):Int):=by omega
      have c3':(30:Int)<((B+1:Nat):Int):=by
       rcases hb with q|q|q
       · exact absurd c1 q
       · exact absurd q c2
       · omega
      simp only[I]at *
      simp only[AP.f44,go_sem,a1,b1,w1,w2,gs2,c1',Qn c2',Qq c3',f1]
  · have c1':=tK c1
    simp only[I]at *
    simp only[AP.f44,go_sem,a1,b1,w1,w2,gs2,c1',f1]
 unfold EC
 by_cases hp:S.at_+10≤8* c.text.size
 · have e1 : uV c 5 S = (u0 c.text S.at_ 5, { S with at_ := S.at_ + 5 }) := by rw [uV, if_pos (by omega)]
   rw[e1]at hA hS1;dsimp only at hA hS1
   have e2:uV c 5 {S with at_:=S.at_+5}=(u0 c.text (S.at_+5) 5,{S with at_:=S.at_+5+5}):=by rw[uV,if_pos (by show S.at_+5+5≤_;omega)]
   rw[hS1,e2]at hB hS2;dsimp only at hB hS2
   rw[if_pos hp]
   dsimp only
   rw[←hA,←hB]
   by_cases hbig:286<A+257∨30<B+1
   · rw[if_pos hbig];exact bad (.inr hbig)
   · rw [if_neg hbig]
     have c1':(S2.e !=0)=false:=tJ (by rw[hS2];exact he)
     have c2':¬(286:Int)<((A+257:Nat):Int):=by omega
     have c3':¬(30:Int)<((B+1:Nat):Int):=by omega
     have w3:IntKind.wrap .i64 (((A+257:Nat):Int)+((B+1:Nat):Int))=((A+257+(B+1):Nat):Int):=by
      rw[show((A+257:Nat):Int)+((B+1:Nat):Int)=((A+257+(B+1):Nat):Int)by omega];exact uS (by omega)
     obtain⟨h3,S3,av,acc,l1,l2,l3,l4,l5,l6⟩:=EK b2 (by rw[hS2];exact he) (A+257+(B+1)) (by omega) (by omega)
     have gs3:=l2.gs
     have hat2:S2.at_=S.at_+10:=by rw[hS2]
     rw[hat2]at l6
     cases hL:ya c.text (A+257+(B+1)) (S.at_+10)with
     | none =>
       rw[hL]at l6
       have c4:(S3.e !=0)=true:=tK (by rw[l6];decide)
       refine⟨h3,ov,S3, ?_,l2,fr2.trans l3,l6,by decide⟩
       refine ta (fn:=AP.f44) (e:=[(0,.aC c.s 0),(2,I (A+257:Nat)),(4,av),(37,.bool true)]) (vs:=[]) rfl rfl rfl ?_ rfl
       simp only[I]at *
       simp only[AP.f44,go_sem,a1,b1,w1,w2,gs2,c1',Qn c2',Qn c3',w3,l1,gs3,c4]
     | some q =>
       obtain⟨L,p2⟩:=q
       rw[hL]at l6
       obtain⟨l6,l7,l8⟩:=l6
       subst l7
       have hrng:=EL hL
       dsimp only
       have he3:S3.e=0:=by rw[l6,hS2];exact he
       have c4:(S3.e !=0)=false:=tJ he3
       obtain⟨id,hav,hgid⟩:∃id,av=.aD id 0 (A+257+(B+1)) 1∧h3.get id=some (ints acc):=by
        rcases l4 with ⟨_,q⟩|⟨id,q1,q2,_⟩
        · have:=QN List.length q;rw[o9,l8,Qo]at this;omega
        · exact⟨id,by rw[q1,o9,l8],q2⟩
       have hil:(ints acc).length=A+257+(B+1):=by rw[o9,l8]
       have s1:=Dp (h:=h3) (k:=A+257) hgid hil (ur _) (by omega)
       have s2:=Fg (h:=h3) (k:=A+257) hgid hil (by omega)
       rw[show A+257+(B+1)-(A+257)=B+1 by omega]at s2
       rw[←hav]at s1 s2
       obtain⟨la,hla⟩:∃x,x=acc.take (A+257):=⟨_,rfl⟩
       obtain⟨lb,hlb⟩:∃x,x=acc.drop (A+257):=⟨_,rfl⟩
       have hlal:la.length=A+257:=by rw[hla,List.length_take];omega
       have hlbl:lb.length=B+1:=by rw[hlb,List.length_drop];omega
       have ra:Rd h3 (.aD id 0 (A+257) 1) (ints la):=by
        refine⟨?_,by intro s e;cases e⟩
        simp only[aR,if_true,hgid,um]
        rw[if_pos (by rw[hil];omega),hla];simp [ints,List.map_take];omega
       have rb:Rd h3 (.aD id (A+257) (B+1) 1) (ints lb):=by
        refine⟨?_,by intro s e;cases e⟩
        simp only[aR,if_true,hgid,um]
        rw[if_pos (by rw[hil];omega),hlb]
        have:(ints (acc.drop (A+257))).length=B+1:=by rw[o9,←hlb,hlbl]
        rw[this,ints,ints,←List.map_drop,QM,uI (by rw[Qr,←hlb,hlbl];omega)]
       rw[←hla,←hlb]
       have cka:=BH h3 _ la (by omega) ra
       have ckb:=BH h3 _ lb (by omega) rb
       have hra:yh la:=fun y hy=>hrng y (List.mem_of_mem_take (hla ▸ hy))
       have hrb:yh lb:=fun y hy=>hrng y (List.mem_of_mem_drop (hlb ▸ hy))
       have sgb:=GA h3 _ lb (by omega) hrb rb
       have mka:=yV h3 _ la (by omega) hra ra
       have mkb:=yV h3 _ lb (by omega) hrb rb
       have hel:=Be (l:=la) (i:=256) (by omega)
       obtain⟨ad,p1,p2'⟩:=ra.elem hel
       have p3:=p2' h3 (fun _ _ q=>q)
       have p1':fM 1 (.aD id 0 (A+257) 1) (I 256)=some ad:=p1
       clear p1 p2'
       obtain⟨cb,hcb⟩:∃b:Bool,(b=true↔vy la≠0∨la.getD 256 0=0∨(vy lb≠0∧xb lb=false)):=⟨decide _,decide_eq_true_iff⟩
       have step:∀k,aK (aQ AP.A) bA k [(0,.aC c.s 0),(2,I (A+257:Nat)),(4,av)] h3=aK (aQ AP.A) bA k [(0,.aC c.s 0),(2,I (A+257:Nat)),(4,av)] h3:=fun _=>rfl
       by_cases hbad:vy la≠0∨la.getD 256 0=0∨(vy lb≠0∧xb lb=false)
       · rw [if_pos hbad]
         obtain⟨h4,f1,f2,f3⟩:=wx l2 700
         refine⟨h4,ov,vi 700 S3, ?_,f2,(fr2.trans l3).trans f3,by simp [vi,he3],by decide⟩
         refine ta (fn:=AP.f44) (e:=[]) (vs:=[]) rfl rfl rfl ?_ rfl
         by_cases d1:vy la=0
         · have d1':=tJ d1
           by_cases d2:la.getD 256 0=0
           · have d2':=tI d2
             simp only[I]at *
             simp only[AP.f44,go_sem,a1,b1,w1,w2,gs2,c1',Qn c2',Qn c3',w3,l1,gs3,c4,Qp,QC,s1,s2,cka,d1',p1',p3,d2',f1]
           · have d2':=tH d2
             obtain⟨d3,d4⟩:vy lb≠0∧xb lb=false:=by
              rcases hbad with q|q|q
              · exact absurd d1 q
              · exact absurd q d2
              · exact q
             have d3':=tK d3
             rw[d4]at sgb
             simp only[I]at *
             simp only[AP.f44,go_sem,a1,b1,w1,w2,gs2,c1',Qn c2',Qn c3',w3,l1,gs3,c4,Qp,QC,s1,s2,cka,d1',p1',p3,d2',ckb,d3',sgb,f1]
         · have d1':=tK d1
           simp only[I]at *
           simp only[AP.f44,go_sem,a1,b1,w1,w2,gs2,c1',Qn c2',Qn c3',w3,l1,gs3,c4,Qp,QC,s1,s2,cka,d1',f1]
       · rw [if_neg hbad]
         have d1:vy la=0:=Decidable.byContradiction fun q=>hbad (.inl q)
         have d2:la.getD 256 0≠0:=fun q=>hbad (.inr (.inl q))
         have d1':=tJ d1
         have d2':=tH d2
         obtain⟨h4,ov4,S4,q1,q2,q3,q4⟩:=DL la lb (by omega) (by omega) l2 he3
         refine⟨h4,ov4,S4, ?_,q2,(fr2.trans l3).trans q3, ?_⟩
         · refine wy (fn:=AP.f44) (e:=[]) (vs:=[]) rfl rfl rfl ?_ rfl
           by_cases d3:vy lb=0
           · have d3':=tJ d3
             simp only[I]at *
             simp only[AP.f44,go_sem,a1,b1,w1,w2,gs2,c1',Qn c2',Qn c3',w3,l1,gs3,c4,Qp,QC,s1,s2,cka,d1',p1',p3,d2',ckb,d3',mka,mkb,q1]
           · have d3':=tK d3
             have d4:xb lb=true:=by
              cases hs:xb lb with
              |true=>rfl
              |false=>exact absurd (.inr (.inr ⟨d3,hs⟩)) hbad
             rw[d4]at sgb
             simp only[I]at *
             simp only[AP.f44,go_sem,a1,b1,w1,w2,gs2,c1',Qn c2',Qn c3',w3,l1,gs3,c4,Qp,QC,s1,s2,cka,d1',p1',p3,d2',ckb,d3',sgb,mka,mkb,q1]
         · have:S3.at_=p2:=by rw[l6]
           have ho:S3.out=S.out:=by rw[l6,hS2]
           rw[this,ho]at q4;exact q4
 · rw[if_neg hp]
   refine bad (.inl ?_)
   rw[hS2,hS1]
   unfold uV
   by_cases q1:S.at_+5≤8* c.text.size
   · simp only[if_pos q1];rw[if_neg (by omega)];simp [vi,he]
   · simp only[if_neg q1,vi,he,if_true];split<;>simp
def yd (t : ByteArray) (most : Int) (p : Nat) (out : List Nat) : Except Int (Bool × Nat × List Nat) :=
 if p+3≤8* t.size then
  let r:Rs:=if u0 t (p+1) 2=0 then yD t most (p+3) out
   else if u0 t (p+1) 2=1 then xg t most wk (List.replicate 30 5) (8* t.size+1) (p+3) out
   else if u0 t (p+1) 2=2 then EC t most (p+3) out
   else .error 700
  match r with
  | .ok q=>.ok (u0 t p 1==1,q.1,q.2)
  | .error k=>.error k
 else .error 700
def MO (r:Except Int (Bool×Nat×List Nat)) (b:Bool) (S:SS):Prop:=match r with
 | .ok q=>b=q.1∧S=⟨q.2.1,q.2.2,0⟩
 | .error k=>S.e=k∧k≠0
theorem Am:wk.length=288:=by simp only[wk,uN,QI]
theorem Dx:yh wk:=by
 intro y hy
 simp only[wk,List.mem_append]at hy
 rcases hy with hy|hy|hy|hy<;>(obtain⟨_,rfl⟩:=List.mem_replicate.1 hy;omega)
theorem EF:yh (List.replicate 30 5):=by
 intro y hy
 obtain⟨_,rfl⟩:=List.mem_replicate.1 hy;omega
theorem He {c : SC} {S : SS} {h : H} {ov : AV} (st : St c S h ov) (he : S.e = 0) :
 ∃h' ov' S' b,aQ AP.A 15 [.aC c.s 0] h=some (.bool b,h')∧St c S' h' ov'∧Fr c h ov h' ov'∧MO (yd c.text c.most S.at_ S.out) b S':=by
 obtain⟨h1,a1,a2,a3⟩:=xJ st 1 1 rfl (by omega)
 obtain⟨h2,b1,b2,b3⟩:=xJ a2 2 2 rfl (by omega)
 obtain⟨A,hA⟩:∃n,n=(uV c 1 S).1:=⟨_,rfl⟩
 obtain⟨S1,hS1⟩:∃n,n=(uV c 1 S).2:=⟨_,rfl⟩
 rw[←hA]at a1;rw[←hS1]at a2 b1 b2
 obtain⟨B,hB⟩:∃n,n=(uV c 2 S1).1:=⟨_,rfl⟩
 obtain⟨S2,hS2⟩:∃n,n=(uV c 2 S1).2:=⟨_,rfl⟩
 rw[←hB]at b1;rw[←hS2]at b2
 have gs2:=b2.gs
 have fr2:=a3.trans b3
 obtain⟨lb,hlb⟩:∃b:Bool,b=((A:Int)==1):=⟨_,rfl⟩
 unfold yd
 by_cases hp:S.at_+3≤8* c.text.size
 · rw [if_pos hp]
   have e1:uV c 1 S=(u0 c.text S.at_ 1,{S with at_:=S.at_+1}):=by rw[uV,if_pos (by omega)]
   rw[e1]at hA hS1;dsimp only at hA hS1
   have e2:uV c 2 {S with at_:=S.at_+1}=(u0 c.text (S.at_+1) 2,{S with at_:=S.at_+1+2}):=by rw[uV,if_pos (by show S.at_+1+2≤_;omega)]
   rw[hS1,e2]at hB hS2;dsimp only at hB hS2
   have he2:S2.e=0:=by rw[hS2];exact he
   have hat:S2.at_=S.at_+3:=by rw[hS2]
   have hout:S2.out=S.out:=by rw[hS2]
   dsimp only
   rw[←hA,←hB]
   have hlb2:lb=(A==1):=by
    rw[hlb];by_cases q:A=1
    · subst q;rfl
    · rw[tH (by omega)];symm;simp [q]
   have wrap:∀(r:Rs) (h':H) (ov':AV) (S':SS),aQ AP.A 15 [.aC c.s 0] h=some (.bool lb,h')→St c S' h' ov'→Fr c h2 ov h' ov'→Fin r S'→∃h' ov' S' b,aQ AP.A 15 [.aC c.s 0] h=some (.bool b,h')∧St c S' h' ov'∧Fr c h ov h' ov'∧MO (match r with| .ok q=>.ok (A==1,q.1,q.2)| .error k=>.error k) b S':=by
    intro r h' ov' S' q1 q2 q3 q4
    refine⟨h',ov',S',lb,q1,q2,fr2.trans q3, ?_⟩
    cases r with
    |ok q=>exact⟨hlb2,q4⟩
    |error k=>exact q4
   have c0:(S2.e==0)=true:=tI he2
   by_cases d0:B=0
   · rw[if_pos d0]
     obtain⟨h',ov',S',q1,q2,q3,q4⟩:=GK b2 he2
     rw[hat,hout]at q4
     refine wrap _ h' ov' S' ?_ q2 q3 q4
     have d0':((B:Int)==0)=true:=tI (by omega)
     refine ta (fn:=AP.f15) (e:=[(2,.bool lb)]) rfl rfl rfl ?_ rfl
     simp only[I]at *
     simp only[AP.f15,go_sem,a1,b1,←hlb,d0',gs2,c0,q1]
   · rw [if_neg d0]
     have d0':((B:Int)==0)=false:=tH (by omega)
     by_cases d1:B=1
     · rw[if_pos d1]
       have d1':((B:Int)==1)=true:=tI (by omega)
       have f1:=Hw h2
       have m1:=yV h2 (xK wk) wk (by rw[Am];omega) Dx (xY _ _)
       have al:=b2.alloc [I 5]
       have r1:=xM (h2.alloc [I 5]) (.aD h2.next 0 1 1) 5 30 (by omega) (yC _ _)
       have r1':aQ AP.A 43 [.aD h2.next 0 1 1,I 30] (h2.alloc [I 5])=some (xK (List.replicate 30 5),h2.alloc [I 5]):=by
        rw[xK,QI];exact r1
       have m2:=yV (h2.alloc [I 5]) (xK (List.replicate 30 5)) (List.replicate 30 5) (by rw[QI];omega) EF (xY _ _)
       obtain⟨h',ov',S',q1,q2,q3,q4⟩:=DL wk (List.replicate 30 5) (by rw[Am];omega) (by rw[QI];omega) al.1 he2
       rw[hat,hout]at q4
       refine wrap _ h' ov' S' ?_ q2 (al.2.trans q3) q4
       refine ta (fn:=AP.f15) (e:=[(2,.bool lb)]) rfl rfl rfl ?_ rfl
       clear r1
       generalize vg wk=bf at *
       generalize vg (List.replicate 30 5)=bd at *
       generalize xK wk=vf at *
       generalize xK (List.replicate 30 5)=vd at *
       simp only[I]at *
       simp only[AP.f15,go_sem,a1,b1,←hlb,d0',d1',f1,m1,MY,I,r1',m2,q1]
     · rw[if_neg d1]
       have d1':((B:Int)==1)=false:=tH (by omega)
       by_cases d2:B=2
       · rw[if_pos d2]
         have d2':((B:Int)==2)=true:=tI (by omega)
         obtain⟨h',ov',S',q1,q2,q3,q4⟩:=ED b2 he2
         rw[hat,hout]at q4
         refine wrap _ h' ov' S' ?_ q2 q3 q4
         refine ta (fn:=AP.f15) (e:=[(2,.bool lb)]) rfl rfl rfl ?_ rfl
         simp only[I]at *
         simp only[AP.f15,go_sem,a1,b1,←hlb,d0',d1',d2',q1]
       · rw[if_neg d2]
         have d2':((B:Int)==2)=false:=tH (by omega)
         obtain⟨h',q1,q2,q3⟩:=wx b2 700
         refine wrap (.error 700) h' ov _ ?_ q2 q3 ⟨by simp [vi,he2],by decide⟩
         refine ta (fn:=AP.f15) (e:=[(2,.bool lb)]) rfl rfl rfl ?_ rfl
         simp only[I]at *
         simp only[AP.f15,go_sem,a1,b1,←hlb,d0',d1',d2',q1]
 · rw [if_neg hp]
   have hB0:B=0∧S2.e=700:=by
    by_cases q1:S.at_+1≤8* c.text.size
    · have e1:uV c 1 S=(u0 c.text S.at_ 1,{S with at_:=S.at_+1}):=by rw[uV,if_pos q1]
      rw[e1]at hS1;dsimp only at hS1
      have e2:uV c 2 S1=(0,{S1 with e:=700}):=by rw[uV,if_neg (by rw[hS1];show¬S.at_+1+2≤_;omega),vi,if_pos (by rw[hS1];exact he)]
      rw[e2]at hB hS2
      exact⟨hB,by rw[hS2]⟩
    · have e1:uV c 1 S=(0,{S with e:=700}):=by rw[uV,if_neg q1,vi,if_pos he]
      rw[e1]at hS1;dsimp only at hS1
      have e2:uV c 2 S1=(0,S1):=by rw[uV,if_neg (by rw[hS1];show¬S.at_+2≤_;omega),vi,if_neg (by rw[hS1];simp)]
      rw[e2]at hB hS2
      exact⟨hB,by rw[hS2,hS1]⟩
   have d0':((B:Int)==0)=true:=tI (by omega)
   have c0:(S2.e==0)=false:=tH (by rw[hB0.2];decide)
   refine⟨h2,ov,S2,lb, ?_,b2,fr2,hB0.2,by decide⟩
   refine ta (fn:=AP.f15) (e:=[(2,.bool lb)]) rfl rfl rfl ?_ rfl
   simp only[I]at *
   simp only[AP.f15,go_sem,a1,b1,←hlb,d0',gs2,c0]
def xp (t : ByteArray) (most : Int) : Nat → Nat → List Nat → Rs
 |0,_,_=>.error 700
 | f + 1, p, out => match yd t most p out with
   | .error k=>.error k
   | .ok (last,p2,o)=>if last then .ok (p2,o)else xp t most f p2 o
theorem CM {c:SC} {S:SS} {h:H} {ov:AV} (st:St c S h ov) (b:Bool) (hs:b=true∨S.e≠0):
 ∃e',Lp AP.A [7,8] AP.f7L0 [(7,.aC c.s 0),(8,.bool b)] h=some (.exit 0,e',h)∧look e' 7=.aC c.s 0:=by
 have gs:=st.gs
 refine⟨[(7,.aC c.s 0),(28,.bool false)],sN ?_,rfl⟩
 cases b with
 | true =>
   simp only[I]at *
   simp only[AP.f7L0,go_sem]
 | false =>
   have c2:(S.e==0)=false:=tH (by rcases hs with q|q;cases q;exact q)
   simp only[I]at *
   simp only[AP.f7L0,go_sem,gs,c2]
theorem Bv {t:ByteArray} {most:Int}:∀{n p:Nat} {out:List Nat} {p2:Nat} {o:List Nat},wZ t most n p out=.ok (p2,o)→p≤p2
 |0,p,out,p2,o,h=>by rw[wZ]at h;cases h;exact ur _
 | n + 1, p, out, p2, o, h => by
   rw[wZ]at h
   split at h
   · split at h
     · cases h
     · have:=Bv h;omega
   · cases h
theorem yu {t : ByteArray} {most : Int} {ll dl : List Int} : ∀ {k p : Nat} {out : List Nat} {p2 : Nat} {o : List Nat}, xg t most ll dl k p out = .ok (p2, o) → p < p2
 |0,_,_,_,_,h=>by cases h
 | k + 1, p, out, p2, o, h => by
   rw[xg]at h
   split at h
   · cases h
   · rename_i y p1 hs
     have sb:=xy hs
     split at h
     · split at h
       · cases h
       · have:=yu h;omega
     · split at h
       · cases h;omega
       · split at h
         · rename_i p3 o3 hc
           have:=CD hc
           have:=yu h;omega
         · cases h
theorem zQ {t : ByteArray} {cl : List Int} {many : Nat} : ∀ {f : Nat} {acc : List Int} {p : Nat} {L : List Int} {p2 : Nat}, vU t cl many f acc p = some (L, p2) → p ≤ p2
 |0,_,_,_,_,h=>by cases h
 | f + 1, acc, p, L, p2, h => by
   rw[vU]at h
   split at h
   · split at h
     · cases h
     · rename_i y p1 hs
       have sb:=xy hs
       split at h
       · cases h
       · rename_i n times q hag
         have:=zQ h
         have:p1≤q:=by
          unfold yK at hag
          repeat' split at hag
          all_goals first
           |(cases hag;done)
           |(have:=QN (fun o=>o.map (·.2.2)) hag;simp only[Qp,uh]at this;omega)
         omega
   · split at h
     · cases h
     · have:=QN (fun o=>o.map (·.2)) h
       simp only[Qp,uh]at this;omega
theorem Ev {t : ByteArray} {most : Int} {p : Nat} {out : List Nat} {q : Bool × Nat × List Nat} (h : yd t most p out = .ok q) : p < q.2.1 := by
 unfold yd at h
 split at h
 · dsimp only at h
   have key:∀{r:Rs},(match r with| .ok q=>Except.ok (u0 t p 1==1,q.1,q.2)| .error k=>.error k)=Except.ok (ε:=Int) q→∃z,r=.ok z∧z.1=q.2.1:=by
    intro r h
    cases r with
    |ok z=>cases h;exact⟨z,rfl,rfl⟩
    |error k=>cases h
   obtain⟨z,h1,h2⟩:=key h
   rw[←h2]
   split at h1
   · unfold yD at h1
     dsimp only at h1
     split at h1
     · split at h1
       · have:=Bv h1;omega
       · cases h1
     · cases h1
   · split at h1
     · have:=yu h1;omega
     · split at h1
       · unfold EC at h1
         split at h1
         · dsimp only at h1
           split at h1
           · cases h1
           · split at h1
             · cases h1
             · rename_i L p2 hl
               split at h1
               · cases h1
               · have:=yu h1
                 have:p+3≤p2:=by
                  unfold ya at hl
                  split at hl
                  · dsimp only at hl
                    split at hl
                    · split at hl
                      · have:=zQ hl;omega
                      · cases hl
                    · cases hl
                  · cases hl
                 omega
         · cases h1
       · cases h1
 · cases h
theorem CL {c : SC} : ∀ (f : Nat) (S : SS) (h : H) (ov : AV), St c S h ov → S.e = 0 → 8 * c.text.size < S.at_ + f →
 ∃e' h' ov' S',Lp AP.A [7,8] AP.f7L0 [(7,.aC c.s 0),(8,.bool false)] h=some (.exit 0,e',h')∧look e' 7=.aC c.s 0∧St c S' h' ov'∧Fr c h ov h' ov'∧Fin (xp c.text c.most f S.at_ S.out) S'
 |0,S,h,ov,st,he,hk=>by have:=st.xD;omega
 | f + 1, S, h, ov, st, he, hk => by
   have gs:=st.gs
   obtain⟨h1,ov1,S1,b,q1,q2,q3,q4⟩:=He st he
   have step:aK (aQ AP.A) bA AP.f7L0 (ax [(7,.aC c.s 0),(8,.bool false)] [7,8]) h=some (.normal,[(7,.aC c.s 0),(8,.bool b)],h1):=by
    simp only[I]at *
    simp only[AP.f7L0,go_sem,gs,he,q1]
   rw[xp]
   cases hb:yd c.text c.most S.at_ S.out with
   | error k =>
     rw[hb]at q4
     obtain⟨e',r1,r2⟩:=CM q2 b (.inr (by rw[q4.1];exact q4.2))
     exact⟨e',h1,ov1,S1,sP step r1,r2,q2,q3,q4⟩
   | ok z =>
     obtain⟨last,p2,o⟩:=z
     rw[hb]at q4
     obtain⟨q5,q6⟩:=q4
     dsimp only at q5 q6 ⊢
     subst q5
     cases b with
     | true =>
       obtain⟨e',r1,r2⟩:=CM q2 true (.inl rfl)
       exact⟨e',h1,ov1,S1,sP step r1,r2,q2,q3,q6⟩
     | false =>
       have hge:=Ev hb
       dsimp only at hge
       subst q6
       obtain⟨e',h',ov',S',r1,r2,r3,r4,r5⟩:=CL f _ h1 ov1 q2 rfl (by dsimp only;omega)
       exact⟨e',h',ov',S',sP step r1,r2,r3,q3.trans r4,r5⟩
def bytesOf (l:List Nat):ByteArray:=⟨(l.map UInt8.ofNat).toArray⟩
def xL (t:ByteArray) (most:Int):Except Int (List Nat×Nat):=
 if most<0∨8192<most then .error 700 else
 match xp t most (8* t.size+1) 0 []with
 | .ok q=>.ok (q.2,(q.1+7)/8)
 | .error k=>.error k
def L6 (r:Except Int (List Nat×Nat)):AV:=match r with
 | .ok q=>.bO [.str (bytesOf q.1),I q.2,I 0]
 | .error k=>.bO [.str ⟨#[]⟩,I 0,I k]
theorem BD:∀l:List Nat,kC (yt l)=some (l.map UInt8.ofNat)
 |[]=>rfl
 | x :: l => by
   have:yt (x::l)=.int .u8 x::yt l:=rfl
   rw[this,kC,BD l];simp
theorem Hc {h:H} {v:AV} {l:List Nat} (o:mW h v (yt l)):tn h v (aR h 1 v)=some (.str (bytesOf l),h):=by
 rcases o with ⟨rfl,q⟩|⟨id,rfl,q,_⟩
 · have:l=[]:=by cases l with|nil=>rfl|cons _ _=>cases q
   subst this;rfl
 · simp only[aR,if_true,q,um]
   rw[if_pos (by omega)]
   have:((yt l).drop 0).take ((yt l).length* 1)=yt l:=by rw[Qs,QM,List.take_length]
   rw[this]
   simp only[tn,um,BD];rfl
theorem EH (h : H) (hf : h.floor ≤ h.next) (t : ByteArray) (most : Int) (hs : t.size < 1125899906842624) : aQ AP.A 7 [.str t, I most] h = some (L6 (xL t most), h) := by
 unfold xL
 by_cases c1:most<0
 · rw[if_pos (.inl c1)]
   refine tB (fn:=AP.f7) (h2:=h.dU) (e:=[(4,.str ⟨#[]⟩),(5,I 0),(6,I 700)]) rfl rfl rfl ?_ rfl rfl
   simp only[I]at *
   simp only[AP.f7,go_sem,Qq c1]
 by_cases c2:8192<most
 · rw[if_pos (.inr c2)]
   refine tB (fn:=AP.f7) (h2:=h.dU) (e:=[(4,.str ⟨#[]⟩),(5,I 0),(6,I 700)]) rfl rfl rfl ?_ rfl rfl
   simp only[I]at *
   simp only[AP.f7,go_sem,Qn c1,Qq c2]
 rw[if_neg (by omega)]
 obtain⟨h1,hh1⟩:∃g,g=h.dU.alloc [.str t,I 0]:=⟨_,rfl⟩
 obtain⟨h2,hh2⟩:∃g,g=h1.alloc [.aC h.next 0,.aO,I most,I 0]:=⟨_,rfl⟩
 have of1:=OQ h.dU t
 rw[←hh1]at of1
 have n1:h1.next=h.next+1:=by rw[hh1];simp
 have st:St ⟨h.next+1,h.next,t,most⟩ ⟨0,[],0⟩ h2 .aO:=by
  refine⟨?_, ?_,.inl ⟨rfl,rfl⟩,by simp, ?_, ?_,by simp [AV.id?],by simp [AV.id?], ?_,hs,by simp,by simp;omega,by show most≤900000;omega⟩
  · rw[hh2,H.aV,if_pos n1.symm]
  · rw[hh2,H.aV,if_neg (by show h.next≠h1.next;omega),hh1,H.aV,if_pos (show h.next=h.dU.next from rfl)];rfl
  · rw[hh2,hh1];simp
  · rw[hh2,hh1];simp
  · rw[hh2,hh1];simp;omega
 obtain⟨e',h3,ov,S,q1,q2,q3,q4,q5⟩:=CL (8* t.size+1) ⟨0,[],0⟩ h2 .aO st rfl (by show 8* t.size<0+(8* t.size+1);omega)
 have gs:=q3.gs
 have bx:∀e:Env,look e 18=.agg [.aC h.next 0,.aO,.int .i64 most,.int .i64 0]→aX e (.box 4 (.t 18))=some ([.aC h.next 0,.aO,.int .i64 most,.int .i64 0],fun i=>.aC i 0):=by
  intro e q;simp only[aX,rK,q];rfl
 have fl:dV [.cF,.aO,.int .i64 0,.int .i64 0] [(0,1,.aC h.next 0),(2,1,.int .i64 most)]=some [.aC h.next 0,.aO,.int .i64 most,.int .i64 0]:=rfl
 have hn:h.dU.next=h.next:=rfl
 dsimp only at q5
 cases hi:xp t most (8* t.size+1) 0 []with
 | error k =>
   rw[hi]at q5
   have c3:(S.e !=0)=true:=tK (by rw[q5.1];exact q5.2)
   have hk:S.e=k:=q5.1
   refine tB (fn:=AP.f7) (h2:=h3) (e:=[(4,.str ⟨#[]⟩),(5,I 0),(6,I k)]) rfl rfl rfl ?_ rfl rfl
   simp only[I]at *
   simp only[AP.f7,go_sem,Qn c1,Qn c2,of1,hn,Qz,List.map_nil,fl]
   rw[bx _ rfl]
   rw[hk]at gs c3
   simp only[go_sem,←hh2,n1,rH,q1,q2,gs,c3]
 | ok z =>
   obtain⟨p,o⟩:=z
   rw[hi]at q5
   simp only[Fin]at q5
   have c3:(S.e !=0)=false:=tJ (by rw[q5])
   obtain⟨h4,a1,a2,a3⟩:=q3.align
   have gs4:=a2.gs
   have gr4:=a2.gr
   have at4:=OH h4 h.next t _ gr4
   have hb:=Hc a2.own
   subst q5
   dsimp only at gs4 gr4 at4 hb a2 gs c3
   have hle:=a2.xD
   dsimp only at hle
   have qd:bp .quo (.int .i64 (((p+7)/8* 8:Nat):Int)) (.int .i64 8)=some (.int .i64 (((p+7)/8:Nat):Int)):=by
    rw[rq _ _ _ (by omega),show(8:Int)=((8:Nat):Int)from rfl,ym,Nat.mul_div_cancel _ (by omega),uS (by omega)]
   refine tB (fn:=AP.f7) (h2:=h4) (e:=[(4,.str (bytesOf o)),(5,I ((p+7)/8:Nat)),(6,I 0)]) rfl rfl rfl ?_ rfl rfl
   generalize (p+7)/8* 8=P8 at *
   generalize (p+7)/8=P at *
   simp only[I]at *
   simp only[AP.f7,go_sem,Qn c1,Qn c2,of1,hn,Qz,List.map_nil,fl]
   rw[bx _ rfl]
   simp only[go_sem,←hh2,n1,rH,q1,q2,gs,c3,a1]
   rw[E3 (e':=[(6,.int .i64 0),(5,.int .i64 P),(4,.str (bytesOf o)),(55,.int .i64 P),(54,.int .i64 P8),(53,.aC h.next 0),(52,.aC (h.next+1) 0),(51,.aC (h.next+1) 0),(50,.aC (h.next+1) 0),(49,.str (bytesOf o)),(48,ov),(47,.aC (h.next+1) 1),(46,.aC (h.next+1) 0),(45,.aC (h.next+1) 0),(7,.aC (h.next+1) 0)]) (h':=h4) (gs:=[h4,h4])]
   · simp only[go_sem]
   · simp only[zm,BV,BL,BZ,BX,bW.aN,go_sem,gs4,hb,at4,qd]
   · refine zK (fun k hk=> ?_) (zK (fun k hk=> ?_) rfl)
     · obtain rfl:k=1:=by simpa using hk
       refine zJ (o:=⟨some 48,.load false 1 (.t 47),none⟩) (g:=h4) (h':=h4) (d:=48) (u:=ov) rfl rfl rfl rfl ?_ ?_
       · simp only[ai,go_sem,gs4]
       · simp only[go_sem]
         rcases a2.own with ⟨rfl,_⟩|⟨id,rfl,_⟩
         · rfl
         · exact Ae _ _ _ _
     · obtain rfl:k=1:=by simpa using hk
       refine zJ (o:=⟨some 49,.kC (.t 48),none⟩) (g:=h4) (h':=h4) (d:=49) (u:=.str (bytesOf o)) rfl rfl rfl rfl ?_ ?_
       · simp only[ai,go_sem,hb]
       · simp only[go_sem,zY]
theorem zV (a:ByteArray):a.toList=a.data.toList:=by
 have key:∀(n i:Nat) (r:List UInt8),a.size-i=n→ByteArray.toList.loop a i r=r.reverse++a.data.toList.drop i:=by
  intro n
  induction n with
  | zero =>
    intro i r h
    unfold ByteArray.toList.loop
    rw[if_neg (by omega),List.drop_eq_nil_of_le (by show a.data.toList.length≤i;have:a.data.toList.length=a.size:=rfl;omega)];simp
  | succ n ih =>
    intro i r h
    unfold ByteArray.toList.loop
    have hi:i<a.data.toList.length:=by show i<a.size;omega
    rw[if_pos (by omega),ih (i+1) _ (by omega),List.drop_eq_getElem_cons hi]
    have hi':i<a.data.size:=hi
    simp [ByteArray.get!,getElem!_pos a.data i hi']
 unfold ByteArray.toList
 rw[key a.size 0 [] (by omega)];simp
theorem yE (a b:ByteArray):bp .eql (.str a) (.str b)=some (.bool (a.data.toList==b.data.toList)):=by
 simp only[bp,jN,zV]
theorem z8 (a b:ByteArray):bp .neq (.str a) (.str b)=some (.bool (!(a.data.toList==b.data.toList))):=by
 simp only[bp,jN,zV]
theorem Ir (h:H) (n:Int):aQ AP.A 9 [I n] h=some (I n,h):=by
 refine tB (fn:=AP.f9) (h2:=h.dU) (e:=[(2,I n)]) rfl rfl rfl ?_ rfl rfl
 simp only[I]at *
 simp only[AP.f9,go_sem]
def HO (out:List Nat) (i:Nat) (b:Nat):List Nat:=
 let o:=if i%8=0 then out++[0]else out
 o.set (i/8) (o.getD (i/8) 0|||b* 2^(i%8))
def Gf:List Nat→Nat→List Nat→List Nat
 |[],_,out=>out
 |b::r,i,out=>Gf r (i+1) (HO out i b)
theorem mW.set {h:H} {v:AV} {cs:List AV} (o:mW h v cs) {i:Nat} (hi:i<cs.length) (x:AV):∃id,v=.aD id 0 cs.length 1∧h.get id=some cs∧h.floor≤id∧mW (h.set id (cs.set i x)) v (cs.set i x):=by
 rcases o with ⟨rfl,rfl⟩|⟨id,rfl,h1,h2,h3⟩
 · simp at hi
 · exact⟨id,rfl,h1,h2,.inr ⟨id,by simp,by rw[H.dB,if_pos rfl,h1];rfl,by simpa using h2,by intro e;apply h3;have:=QN List.length e;simpa using this⟩⟩
theorem Cj {x y:ByteArray} (h:x.size+y.size≤9223372036854775807):bp .add (.str x) (.str y)=some (.str (x++y)):=by
 simp only[bp,jN,if_pos h]
structure PR (a t:ByteArray):Prop where
 sz:a.size≤t.size
 bit:∀i,i<8* a.size→wH a i=wH t i
section
variable {a t:ByteArray} (h:PR a t)
include h
end
variable {t:ByteArray} {most most':Int}
theorem Ha {s:ByteArray} {n:Nat} (hn:n≤s.size):nj (.str s) none (some (I n))=some (.str (s.extract 0 n)):=by
 have:j7 (I n) s.size=some n:=C8 hn
 simp [nj,aA,this]
theorem vH (l:List Nat):(bytesOf l).size=l.length:=by
 show(l.map UInt8.ofNat).toArray.size=_
 simp
structure FC where
 f:Nat
 text:ByteArray
 most:Int
structure Ft (c:FC) (S:SS) (h:H) (ov:AV):Prop where
 gf:h.get c.f=some [.str c.text,I S.at_,ov,I c.most,I S.e]
 own:mW h ov (yt S.out)
 ff:h.floor≤c.f
 of:ov.id?≠some c.f
 nx:h.floor≤h.next
 sz:c.text.size<1125899906842624
 xD:S.at_≤8* c.text.size
 ol:(S.out.length:Int)≤c.most
 ml:c.most≤900000
structure FF (c:FC) (h:H) (ov:AV) (h':H) (ov':AV):Prop where
 fl:h'.floor=h.floor
 nx:h.next≤h'.next
 Dj:∀id,id<h.next→id≠c.f→ov.id?≠some id→h'.get id=h.get id
 nb:∀i,ov'.id?=some i→ov.id?=some i∨h.next≤i
theorem FF.refl (c:FC) (h:H) (ov:AV):FF c h ov h ov:=⟨rfl,ur _,fun _ _ _ _=>rfl,fun _ q=>.inl q⟩
theorem FF.trans {c:FC} {h1 h2 h3:H} {o1 o2 o3:AV} (a:FF c h1 o1 h2 o2) (b:FF c h2 o2 h3 o3):FF c h1 o1 h3 o3:=by
 refine⟨b.fl.trans a.fl,uL a.nx b.nx,fun id h4 h5 h7=> ?_,fun i hi=> ?_⟩
 · rw[b.Dj id (Nat.lt_of_lt_of_le h4 a.nx) h5 (fun q=> ?_),a.Dj id h4 h5 h7]
   rcases a.nb id q with q|q
   · exact h7 q
   · omega
 · rcases b.nb i hi with q|q
   · exact a.nb i q
   · exact .inr (uL a.nx q)
theorem Ft.vI {c:FC} {S:SS} {h h':H} {ov:AV} (st:Ft c S h ov) (hf:h'.floor=h.floor) (hn:h.next≤h'.next) (hg:∀i,i=c.f∨ov.id?=some i→h'.get i=h.get i):Ft c S h' ov:=
 ⟨by rw[hg _ (.inl rfl)];exact st.gf,st.own.mono hf fun i hi=>hg i (.inr hi),by rw[hf];exact st.ff,st.of,by rw[hf];exact uL st.nx hn,st.sz,st.xD,st.ol,st.ml⟩
theorem Ft.lt {c:FC} {S:SS} {h:H} {ov:AV} (st:Ft c S h ov) {i:Nat} (hi:i=c.f∨ov.id?=some i):i<h.next:=by
 rcases hi with rfl|hi
 · exact h.lt _ _ st.gf
 · exact st.own.lt hi
theorem Ft.alloc {c:FC} {S:SS} {h:H} {ov:AV} (st:Ft c S h ov) (cs:List AV):Ft c S (h.alloc cs) ov∧FF c h ov (h.alloc cs) ov:=by
 refine⟨st.vI (by simp) (by simp) fun i hi=> ?_,⟨by simp,by simp,fun id h1 _ _=> ?_,fun _ q=>.inl q⟩⟩
 · have:=st.lt hi;rw[H.aV,if_neg (by omega)]
 · rw[H.aV,if_neg (by omega)]
structure Qe (h0 h:H) (b:Nat) (D:Nat→AV) (k:Nat) (p S0:List Int):Prop where
 get:h.get b=some (mY 17 D)
 fl:h.floor=h0.next
 fb:h0.next≤b
 nx:h.floor≤h.next
 low:∀id,id<h0.next→h.get id=h0.get id
 ck:D k=I (zt p k)
 own:mW h (D 16) (ints (S0++syms p k))
 nb:(D 16).id?≠some b
theorem Bs {h:H} {v:AV} {l:List Int} {fl:Nat} (o:mW h v (ints l)) (hf:fl≤h.floor) (hl:l≠[]):snap h.get fl 16 true v=some (xK l):=by
 rcases o with ⟨_,q⟩|⟨id,rfl,q,h2,_⟩
 · exact absurd (List.map_eq_nil_iff.1 q) hl
 · unfold snap
   rw[if_neg (by omega),q,um,if_pos (by omega)]
   rw[Qs,QM,List.take_length,wS]
   simp [xK]
abbrev E7 (k:Int):Prop:=k=700∨k=701
theorem AK {t:ByteArray} {most k:Int}:∀{n p:Nat} {out:List Nat},wZ t most n p out=.error k→E7 k
 |0,p,out,h=>by cases h
 | n + 1, p, out, h => by
   unfold wZ at h
   split at h
   · split at h
     · cases h;exact .inr rfl
     · exact AK h
   · cases h;exact .inl rfl
theorem Da {t:ByteArray} {most k:Int} {p:Nat} {out:List Nat} (h:yD t most p out=.error k):E7 k:=by
 unfold yD at h
 dsimp only at h
 split at h
 · split at h
   · exact AK h
   · cases h;exact .inl rfl
 · cases h;exact .inl rfl
theorem Ba {most k:Int} {d:Nat}:∀{n:Nat} {out:List Nat},zN most d n out=.error k→E7 k
 |0,out,h=>by cases h
 | n + 1, out, h => by
   unfold zN at h
   split at h
   · cases h;exact .inr rfl
   · exact Ba h
theorem EA {t : ByteArray} {most k : Int} {dl : List Int} {y p : Nat} {out : List Nat} (h : zM t most dl y p out = .error k) : E7 k := by
 unfold zM at h
 split at h
 · cases h;exact .inl rfl
 · split at h
   · split at h
     · cases h;exact .inl rfl
     · split at h
       · cases h;exact .inl rfl
       · split at h
         · split at h
           · cases h
           · rename_i q;cases h;exact Ba q
         · cases h;exact .inl rfl
   · cases h;exact .inl rfl
theorem xQ {t : ByteArray} {most k : Int} {ll dl : List Int} : ∀ {n p : Nat} {out : List Nat}, xg t most ll dl n p out = .error k → E7 k
 |0,p,out,h=>by cases h;exact .inl rfl
 | n + 1, p, out, h => by
   unfold xg at h
   split at h
   · cases h;exact .inl rfl
   · split at h
     · split at h
       · cases h;exact .inr rfl
       · exact xQ h
     · split at h
       · cases h
       · split at h
         · exact xQ h
         · rename_i q;cases h;exact EA q
theorem FB {t : ByteArray} {most k : Int} {p : Nat} {out : List Nat} (h : EC t most p out = .error k) : E7 k := by
 unfold EC at h
 dsimp only at h
 split at h
 · split at h
   · cases h;exact .inl rfl
   · split at h
     · cases h;exact .inl rfl
     · split at h
       · cases h;exact .inl rfl
       · exact xQ h
 · cases h;exact .inl rfl
theorem Dt {t : ByteArray} {most k : Int} {p : Nat} {out : List Nat} (h : yd t most p out = .error k) : E7 k := by
 unfold yd at h
 dsimp only at h
 split at h
 · split at h
   · cases h
   · rename_i q
     cases h
     split at q
     · exact Da q
     · split at q
       · exact xQ q
       · split at q
         · exact FB q
         · cases q;exact .inl rfl
 · cases h;exact .inl rfl
theorem zO {t:ByteArray} {most k:Int}:∀{n p:Nat} {out:List Nat},xp t most n p out=.error k→E7 k
 | 0, p, out, h => by
   unfold xp at h
   cases h;exact .inl rfl
 | n + 1, p, out, h => by
   unfold xp at h
   split at h
   · rename_i q;cases h;exact Dt q
   · split at h
     · cases h
     · exact zO h
theorem BP {t:ByteArray} {most k:Int} (h:xL t most=.error k):E7 k:=by
 unfold xL at h
 split at h
 · cases h;exact .inl rfl
 · split at h
   · cases h
   · rename_i q;cases h;exact zO q
theorem dt {p:Prop} [Decidable p] (h:p):decide p=true:=Qq h
theorem df {p:Prop} [Decidable p] (h:¬p):decide p=false:=Qn h
theorem O1 {a b:Int} (h:a=b):(a==b)=true:=by simp [h]
theorem Kr {a b:Int} (h:¬a=b):(a==b)=false:=by simp [h]
theorem Mk {a b:Int} (h:¬a=b):(a !=b)=true:=by simp [h]
theorem Im {a b:Int} (h:a=b):(a !=b)=false:=by simp [h]
theorem wi {n:Int} (h: -9223372036854775808≤n∧n<9223372036854775808):IntKind.wrap .i64 n=n:=tg h.1 (by omega)
theorem wb {n:Int} (h:0≤n∧n<256):IntKind.wrap .u8 n=n:=by
 simp [IntKind.wrap,IntKind.bits,IntKind.signed];omega
theorem MK {i:Int} {n:Nat} (h:0≤i∧i<n):da (.int .i64 i) n=some i.toNat:=by
 simp [da,ni,h]
def at_:Nat→aF→aF
 |0,.seq a _=>a
 |0,c=>c
 |n+1,.seq _ b=>at_ n b
 |_+1,c=>c
def DF:Nat→aF→aF
 |0,c=>c
 |n+1,.seq _ b=>DF n b
 |_+1,c=>c
theorem vB (a b:aF):at_ 0 (.seq a b)=a:=rfl
theorem vG (n:Nat) (a b:aF):at_ (n+1) (.seq a b)=at_ n b:=rfl
theorem AQ (c:aF):DF 0 c=c:=rfl
theorem AO (n:Nat) (a b:aF):DF (n+1) (.seq a b)=DF n b:=rfl
theorem ye {h:H} {id i:Nat} (e:¬i=id):(h.del id).get i=h.get i:=by rw[H.dX,if_neg e]
theorem zl (h:H):h.dU.next=h.next:=ui rfl rfl
theorem y8 (h:H):h.dU.floor=h.next:=ui rfl rfl
theorem y9 (h:H) (i:Nat):h.dU.get i=h.get i:=ui rfl rfl
theorem BT (h:H) (i:Nat):(h.del i).next=h.next:=ui rfl rfl
theorem BJ (h:H) (i:Nat):(h.del i).floor=h.floor:=ui rfl rfl
theorem uW {h:H} {cs:List AV} {i:Nat} (e:i=h.next):(h.alloc cs).get i=some cs:=by rw[H.aV,if_pos e]
theorem u6 {h:H} {cs:List AV} {i:Nat} (e:¬i=h.next):(h.alloc cs).get i=h.get i:=by rw[H.aV,if_neg e]
theorem uZ {h:H} {cs:List AV} {id i:Nat} (e:i=id):(h.set id cs).get i=(h.get i).map fun _=>cs:=by rw[H.dB,if_pos e,e]
theorem uU {h:H} {cs:List AV} {id i:Nat} (e:¬i=id):(h.set id cs).get i=h.get i:=by rw[H.dB,if_neg e]
def wh {α:Type} (b:Bool) (x:α):Option α:=if b then some x else none
theorem vM {α:Type} (x:α):wh true x=some x:=rfl
theorem GJ (h:H) (id off n:Nat) (v cs:List AV):tD h id off n v (some cs)=wh (decide (h.floor≤id)&&(decide (v.length=n)&&(decide (off+n≤cs.length)&&AV.aB v))) (h.set id (setFrom cs off v)):=by
 simp only[tD,um,wh]
 by_cases c:h.floor≤id∧v.length=n∧off+n≤cs.length∧AV.aB v=true
 · rw[if_pos c];obtain⟨c1,c2,c3,c4⟩:=c;simp [c1,c2,c3,c4]
 · rw[if_neg c,if_neg];simpa using c
theorem D0 (n:Nat) (cs:List AV) (off:Nat):gY true n cs off=wh (decide (off+n≤cs.length)) (.agg ((cs.drop off).take n)):=by
 simp only[gY,wh,if_true,Qt]
theorem FE (z:List AV):dV z []=some z:=rfl
def CH (r:List (Nat×Nat×AV)) (p:Option (List AV)):Option (List AV):=p.bind fun z=>dV z r
theorem DS (r:List (Nat×Nat×AV)) (z:List AV):CH r (some z)=dV z r:=rfl
theorem FD (z:List AV) (o n:Nat) (v:AV) (r:List (Nat×Nat×AV)):dV z ((o,n,v)::r)=CH r (wh (decide (v.cells.length=n)&&(decide (o+n≤z.length)&&AV.aB v.cells)) (setFrom z o v.cells)):=by
 simp only[dV,wh]
 by_cases c:v.cells.length=n∧o+n≤z.length∧AV.aB v.cells=true
 · rw[if_pos c];obtain⟨c1,c2,c3⟩:=c;simp [c1,c2,c3,CH]
 · rw[if_neg c,if_neg]; · rfl
   simpa using c
def Cs (p:Option (List AV)) (f:Nat→AV):Option (List AV×(Nat→AV)):=p.bind fun cs=>some (cs,f)
theorem Af (cs:List AV) (f:Nat→AV):Cs (some cs) f=some (cs,f):=rfl
theorem xE (e:Env) (z:List AV):aX e (.alloc z)=Cs (wh (AV.aB z) z) (fun i=>.aC i 0):=by
 simp only[aX,wh];split<;>rfl
theorem BF (e:Env) (n:Nat) (x:X):aX e (.box n x)=Cs (wh (decide ((x.ev e).cells.length=n)&&AV.aB (x.ev e).cells) (x.ev e).cells) (fun i=>.aC i 0):=by
 simp only[aX,wh]
 by_cases c:(x.ev e).cells.length=n∧AV.aB (x.ev e).cells=true
 · rw[if_pos c];simp [c,Cs]
 · rw[if_neg c,if_neg]; · rfl
   simpa using c
theorem Ag (e:Env) (sz len:Nat) (z:List AV) (ps:List (Nat×X)):aX e (.cP sz len z ps)=Cs (CH (ps.map fun p=>(p.1* sz,sz,p.2.ev e)) (wh (decide (z.length=sz)&&(decide (0<sz)&&AV.aB z)) (dM len z))) (fun i=>.aD i 0 len sz):=by
 simp only[aX,wh]
 by_cases c:z.length=sz∧0<sz∧AV.aB z=true
 · rw[if_pos c];simp [c,Cs,CH]
 · rw[if_neg c,if_neg]; · rfl
   simpa using c
theorem Gp (z:List AV):dM 0 z=[]:=rfl
theorem Gn (n:Nat) (z:List AV):dM (n+1) z=z++dM n z:=rfl
def L4 (vI:List Nat) (e:Env) (h:H) (b:Bool):dH:=if b then some (.normal,ax e vI,h)else none
theorem FL (vI:List Nat) (e:Env) (h:H):L4 vI e h true=some (.normal,ax e vI,h):=rfl
def O3 (c:ae) (ops:List aj) (fl:List (Nat×List Nat)) (vI:List Nat) (p:Option (Env×H×List H)):dH:=p.bind fun q=>L4 vI q.1 q.2.1 (aY c ops q.1 q.2.2 fl)
theorem Ii (c:ae) (ops:List aj) (fl:List (Nat×List Nat)) (vI:List Nat) (e:Env) (h:H) (gs:List H):O3 c ops fl vI (some (e,h,gs))=L4 vI e h (aY c ops e gs fl):=rfl
theorem DG (c:ae) (l:bK) (ord:List Nat) (ops:List aj) (x:Nat×List Nat) (fl:List (Nat×List Nat)) (vI:List Nat) (e:Env) (h:H):aK c l (.iO ord ops (x::fl) vI) e h=O3 c ops (x::fl) vI (aM c ops e h):=by
 rw[aK];rfl
theorem IH (c:ae) (ops:List aj) (e:Env) (gs:List H):aY c ops e gs []=true:=rfl
def Ox (c:ae) (ops:List aj) (e:Env) (gs:List H) (i:Nat) (ks:List Nat):Bool:=ks.all (bI c ops e gs i)
theorem IG (c:ae) (ops:List aj) (e:Env) (gs:List H) (i:Nat) (ks:List Nat) (r:List (Nat×List Nat)):aY c ops e gs ((i,ks)::r)=(Ox c ops e gs i ks&&aY c ops e gs r):=rfl
theorem IE (c:ae) (ops:List aj) (e:Env) (gs:List H) (i:Nat):Ox c ops e gs i []=true:=rfl
def AZ (c : ae) (e : Env) (o : Option aj) (g : Option H) : Bool := match o, g with
 | some o, some g =>
   if o.op.aH then
    match o.dst.map (look e)with
    |some (.bO [])=>true
    | some v => (match v.id?, aX e o.op with
      |some id,some b=>(match g.get id with|some cs=>AV.fQ cs b.1|none=>false)
      |_,_=>false)
    |none=>false
   else match o.dst.map (look e)with
    |some v=>(match ai c o e g with|some (u,_)=>AV.beq u v|none=>false)
    |none=>false
 |_,_=>false
theorem ID (c:ae) (ops:List aj) (e:Env) (gs:List H) (i k:Nat) (r:List Nat):Ox c ops e gs i (k::r)=(AZ c e (ops[i]?) (gs[k]?)&&Ox c ops e gs i r):=by
 unfold Ox
 rw[List.all_cons]
 congr 1
def OU (v:AV) (p:Option (AV×H)):Bool:=match p with|some (u,_)=>AV.beq u v|none=>false
theorem IF (v u:AV) (h:H):OU v (some (u,h))=AV.beq u v:=rfl
def MM (b:Bool) (x y:Bool):Bool:=if b then x else y
theorem IB (x y:Bool):MM false x y=y:=rfl
def A0 (c:ae) (e:Env) (o:Option aj) (g:Option H):Bool:=AZ c e o g
theorem IA (c:ae) (e:Env) (d:Nat) (op:bW) (g:H):AZ c e (some ⟨some d,op,none⟩) (some g)=MM op.aH (A0 c e (some ⟨some d,op,none⟩) (some g)) (OU (look e d) (ah c e g op)):=by
 unfold A0 AZ MM
 dsimp only
 cases op.aH<;>rfl
theorem Iz (c:ae) (e:Env) (d:Nat) (op:bW) (k:Nat) (w:Bool) (g:H):AZ c e (some ⟨some d,op,some (k,w)⟩) (some g)=MM op.aH (A0 c e (some ⟨some d,op,some (k,w)⟩) (some g)) (OU (look e d) (kO w c e g op (look e k))):=by
 unfold A0 AZ MM
 dsimp only
 cases op.aH with
 |true=>rfl
 |false=>rw[my];rfl
mutual
theorem beq_refl:∀a:AV,AV.beq a a=true
 | .bot=>rfl
 | .bool b=>by simp [AV.beq]
 | .int k n=>by simp [AV.beq]
 | .str s=>zY s
 | .cF=>rfl
 | .aC i o=>by simp [AV.beq]
 | .aJ c o=>by simp [AV.beq,vY c]
 | .aO=>rfl
 | .aD i o l z=>by simp [AV.beq]
 | .aU t c o l z=>by simp [AV.beq,vY c]
 | .fn f a b=>by simp [AV.beq,vY a,vY b]
 | .eM=>rfl
 | .iface t v=>by simp [AV.beq,beq_refl v]
 | .eN=>rfl
 | .agg c=>by simp [AV.beq,vY c]
 | .bO c=>by simp [AV.beq,vY c]
theorem vY:∀l:List AV,AV.fQ l l=true
 |[]=>rfl
 |a::l=>by simp [AV.fQ,beq_refl a,vY l]
end
theorem IC (x y:Bool):MM true x y=x:=rfl
def MW (c:Option (List AV)) (d:List AV):Bool:=match c with|some cs=>AV.fQ cs d|none=>false
theorem Ic (c d:List AV):MW (some c) d=AV.fQ c d:=rfl
def Cb (v : AV) (b : Option (List AV × (Nat → AV))) (g : H) : Bool := match v with
 | .bO []=>true
 | v => match v.id?, b with
   |some id,some b=>MW (g.get id) b.1
   |_,_=>false
theorem GI (b:Option (List AV×(Nat→AV))) (g:H):Cb (.bO []) b g=true:=rfl
theorem GH (i o:Nat) (cs:List AV) (f:Nat→AV) (g:H):Cb (.aC i o) (some (cs,f)) g=MW (g.get i) cs:=rfl
theorem GG (i o l z:Nat) (cs:List AV) (f:Nat→AV) (g:H):Cb (.aD i o l z) (some (cs,f)) g=MW (g.get i) cs:=rfl
theorem z7 {c : ae} {e : Env} {d : Nat} {op : bW} {gd : Option (Nat × Bool)} {g : H} (hb : op.aH = true) : A0 c e (some ⟨some d, op, gd⟩) (some g) = Cb (look e d) (aX e op) g := by
 unfold A0 AZ
 dsimp only
 rw[hb,if_pos rfl]
 show (match some (look e d) with
  |some (.bO [])=>true
  | some v => (match v.id?, aX e op with
    |some id,some b=>(match g.get id with|some cs=>AV.fQ cs b.1|none=>false)
    |_,_=>false)
  |none=>false)=_
 generalize look e d=v
 unfold Cb MW
 cases v with
 |bO vs=>cases vs<;>rfl
 |_=>cases aX e op<;>rfl
theorem AJ (c:ae) (e:Env) (d:Nat) (z:List AV) (gd:Option (Nat×Bool)) (g:H):A0 c e (some ⟨some d,.alloc z,gd⟩) (some g)=Cb (look e d) (aX e (.alloc z)) g:=z7 rfl
theorem C9 (c:ae) (e:Env) (d n:Nat) (x:X) (gd:Option (Nat×Bool)) (g:H):A0 c e (some ⟨some d,.box n x,gd⟩) (some g)=Cb (look e d) (aX e (.box n x)) g:=z7 rfl
theorem zU (c:ae) (e:Env) (d n m:Nat) (z:List AV) (ps:List (Nat×X)) (gd:Option (Nat×Bool)) (g:H):A0 c e (some ⟨some d,.cP n m z ps,gd⟩) (some g)=Cb (look e d) (aX e (.cP n m z ps)) g:=z7 rfl
theorem Bt (c:ae) (e:Env) (d n m:Nat) (z:List AV) (x y:X) (gd:Option (Nat×Bool)) (g:H):A0 c e (some ⟨some d,.iQ n m z x y,gd⟩) (some g)=Cb (look e d) (aX e (.iQ n m z x y)) g:=z7 rfl
theorem Co (b:Bool):AV.beq (.bool b) (.bool b)=true:=by simp [AV.beq]
theorem Cr:AV.beq (.bO []) (.bO [])=true:=rfl
theorem Cp:AV.beq .aO .aO=true:=rfl
theorem A5:AV.beq .cF .cF=true:=rfl
theorem FP (sz id off len:Nat) (i:AV):fM sz (.aD id off len sz) i=tN id off sz (da i len):=by simp [fM,tN]
theorem FO (t:Bool) (cells:List AV) (sz off len:Nat) (i:AV):fM sz (.aU t cells off len sz) i=tO cells off sz (da i len):=by simp [fM,tO]
def AB (n:Nat) (z:List AV):List AV:=dM n z
def Il (sz bytes:Nat) (zero:List AV) (l c:AV):Option (List AV×(Nat→AV)):=
 match l,c with
 | .int .i64 l,.int .i64 c=>Cs (wh (decide (0≤l)&&(decide (l≤c)&&(decide (c≤9223372036854775807)&&(decide ((bytes:Int)* c≤281474976710656)&&(decide (zero.length=sz)&&(decide (0<sz)&&AV.aB zero)))))) (AB c.toNat zero)) (fun i=>.aD i 0 l.toNat sz)
 |_,_=>none
theorem BR (sz bytes:Nat) (zero:List AV) (l c:Int):Il sz bytes zero (.int .i64 l) (.int .i64 c)=Cs (wh (decide (0≤l)&&(decide (l≤c)&&(decide (c≤9223372036854775807)&&(decide ((bytes:Int)* c≤281474976710656)&&(decide (zero.length=sz)&&(decide (0<sz)&&AV.aB zero)))))) (AB c.toNat zero)) (fun i=>.aD i 0 l.toNat sz):=rfl
theorem Ct (e : Env) (sz bytes : Nat) (zero : List AV) (l c : X) : aX e (.iQ sz bytes zero l c) = Il sz bytes zero (l.ev e) (c.ev e) := by
 simp only[aX]
 cases l.ev e with
 | int k l => cases k <;> cases c.ev e with
   | int k2 c => cases k2 <;> first
     |rfl
     | (simp only [BR, wh]
        by_cases q:0≤l∧l≤c∧c≤9223372036854775807∧(bytes:Int)* c≤281474976710656∧zero.length=sz∧0<sz∧AV.aB zero=true
        · rw[if_pos q];obtain⟨q1,q2,q3,q4,q5,q6,q7⟩:=q
          rw[if_pos]
          · rfl
          · simp [q1,q2,q3,q4,q5,q6,q7]
        · rw[if_neg q,if_neg]
          · rfl
          · simpa using q)
   |_=>rfl
 |_=>cases c.ev e<;>rfl
theorem Fa (i o l z:Nat):iY false (.aD i o l z)=some (.int .i64 l):=rfl
theorem E9:iY false .aO=some (.int .i64 0):=rfl
theorem E8 (t:Bool) (c:List AV) (o l z:Nat):iY false (.aU t c o l z)=some (.int .i64 l):=rfl
theorem yX (s:ByteArray):iY true (.str s)=some (.int .i64 s.size):=rfl
theorem GQ (a b:Nat):((a:Int)+(b:Int)).toNat=a+b:=by omega
theorem wD (a:Nat):((a:Int)).toNat=a:=by omega
def xC (s:ByteArray) (i:Nat):Nat:=((s[i]?).map (·.toNat)).getD 0
theorem yN (s:ByteArray) (i:Nat):xC s i<256:=by
 unfold xC
 cases s[i]? with
 |none=>simp
 |some b=>simp;exact b.toNat_lt
theorem BN {s:ByteArray} {i:Int} (h:0≤i∧i<s.size):lS (.str s) (.int .i64 i)=some (.int .u8 (xC s i.toNat:Nat)):=by
 have hi:i.toNat<s.size:=by omega
 simp [lS,MK h,xC,hi]
def zH {α:Type} (b:Bool) (x y:Option α):Option α:=if b then x else y
theorem Gx {α:Type} (x y:Option α):zH true x y=x:=rfl
theorem Gv {α:Type} (x y:Option α):zH false x y=y:=rfl
def My (n o k:Nat) (p:Option (List AV)):Option (Nat×List AV):=p.bind fun cs=>wh (decide (o+k* n≤cs.length)) (k,(cs.drop o).take (k* n))
theorem GF (n o k:Nat) (cs:List AV):My n o k (some cs)=wh (decide (o+k* n≤cs.length)) (k,(cs.drop o).take (k* n)):=rfl
theorem Ix (h:H) (n p o k:Nat):aR h n (.aD p o k n)=My n o k (h.get p):=by
 simp only[aR,if_true,My]
 cases h.get p with
 |none=>rfl
 |some cs=>simp only[um,wh,Qt]
theorem Iv (h:H) (t:Bool) (n o k:Nat) (cs:List AV):aR h n (.aU t cs o k n)=wh (decide (o+k* n≤cs.length)) (k,(cs.drop o).take (k* n)):=by
 simp only[aR,if_true,wh,Qt]
theorem Iw (h:H) (n:Nat):aR h n .aO=some (0,[]):=ui rfl rfl
theorem Iy (h:H) (s:ByteArray):aR h 1 (.str s)=some (s.size,s.data.toList.map fun b=>.int .u8 b.toNat):=ui rfl rfl
def MS (h:H) (n z:Nat) (a:AV) (p:Option (Nat×List AV)):Option (AV×H):=p.bind fun r=>dP h n z a r.1 r.2
theorem Ff (h:H) (n z:Nat) (a:AV) (m:Nat) (bs:List AV):MS h n z a (some (m,bs))=dP h n z a m bs:=rfl
theorem Ia (h:H) (n z:Nat) (a b:AV):kz h n z a b=MS h n z a (aR h n b):=ui rfl rfl
def OG (h:H) (n z p o k m:Nat) (bs:List AV) (q:Option (List AV)):Option (AV×H):=q.bind fun cs=>
 zH (decide (o+(k+m)* n≤cs.length)) (some (.aD p o (k+m) n,h.set p (setFrom cs (o+k* n) bs))) (zH (decide (o+k* n=cs.length)&&roomy z (k+m)) (some (.aD h.next 0 (k+m) n,(h.del p).alloc (cs.drop o++bs))) none)
theorem H7 (h:H) (n z p o k m:Nat) (bs cs:List AV):OG h n z p o k m bs (some cs)=zH (decide (o+(k+m)* n≤cs.length)) (some (.aD p o (k+m) n,h.set p (setFrom cs (o+k* n) bs))) (zH (decide (o+k* n=cs.length)&&roomy z (k+m)) (some (.aD h.next 0 (k+m) n,(h.del p).alloc (cs.drop o++bs))) none):=rfl
theorem H9 (h : H) (n z p o k m : Nat) (bs : List AV) : dP h n z (.aD p o k n) m bs = zH (decide (m = 0)) (some (.aD p o k n, h)) (zH (AV.aB bs && (decide (0 < n) && decide (h.floor ≤ p))) (OG h n z p o k m bs (h.get p)) none) := by
 unfold dP zH
 by_cases c:m=0
 · simp [c]
 · rw [if_neg c]
   simp only[Qt,if_neg c]
   by_cases c1:AV.aB bs=false∨n=0
   · rw[if_pos c1,if_neg]
     rcases c1 with c1|c1
     · simp [c1]
     · simp [c1]
   · rw[if_neg c1]
     have q1:AV.aB bs=true:=by cases q:AV.aB bs with|true=>rfl|false=>exact absurd (.inl q) c1
     by_cases c2:h.floor≤p
     · have qq:(AV.aB bs&&(decide (0<n)&&decide (h.floor≤p)))=true:=by simp [q1,c2];omega
       simp only[true_and,if_pos c2,qq,if_true,OG,zH]
       cases h.get p with
       |none=>rfl
       |some cs=>simp only[um,Qt,uu]
     · have qq:(AV.aB bs&&(decide (0<n)&&decide (h.floor≤p)))=false:=by simp [c2]
       simp only[true_and,if_neg c2,qq];rfl
theorem H8 (h:H) (n z m:Nat) (bs:List AV):dP h n z .aO m bs=zH (decide (m=0)) (some (.aO,h)) (zH (AV.aB bs&&(decide (0<n)&&roomy z m)) (some (.aD h.next 0 m n,h.alloc bs)) none):=by
 unfold dP zH
 by_cases c:m=0
 · simp [c]
 · rw[if_neg c]
   simp only[Qt,if_neg c]
   by_cases c1:AV.aB bs=false∨n=0
   · rw[if_pos c1,if_neg]
     rcases c1 with c1|c1
     · simp [c1]
     · simp [c1]
   · rw[if_neg c1]
     have q1:AV.aB bs=true:=by cases q:AV.aB bs with|true=>rfl|false=>exact absurd (.inl q) c1
     have q2:0<n:=by omega
     simp [q1,q2]
theorem D5 {b n:Nat} (h:1≤b∧(n+n/4+512)* b≤281474976710656):roomy b n=true:=by simp only[roomy,h.1,h.2,and_self,decide_true]
theorem Ow {h:H} {n p o k:Nat} {m:Int} {cs:List AV} (hg:h.get p=some cs) (hn:0<n) (hk:o+k* n≤cs.length) (hm:0≤m∧m.toNat≤(cs.length-o)/n):rB h n (.aD p o k n) none (some (.int .i64 m)) none=some (.aD p o m.toNat n):=by
 have h1:k≤(cs.length-o)/n:=by rw[Nat.le_div_iff_mul_le hn];omega
 simp only[rB,hn,and_self,if_true,hg,um,aA]
 rw[if_pos ⟨by omega,h1⟩]
 have h3:j7 (.int .i64 m) ((cs.length-o)/n)=some m.toNat:=by
  simp only[j7,ni,um]
  rw[if_pos]
  omega
 simp [h3]
theorem yg {α:Type} {C:α→List AV} {n:Nat} (hC:∀x,(C x).length=n):∀{l:List α} {i f:Nat} {x:α},l[i]?=some x→f<n→(l.flatMap C)[i* n+f]?=(C x)[f]?
 |[],i,f,x,h,_=>by simp at h
 | y :: l, 0, f, x, h, hf => by
   obtain rfl:y=x:=by simpa using h
   rw[List.flatMap_cons,Nat.zero_mul,uy,List.getElem?_append_left (by rw[hC];exact hf)]
 | y :: l, i + 1, f, x, h, hf => by
   rw[List.flatMap_cons,List.getElem?_append_right (by rw[hC,uJ];omega),hC]
   rw[show(i+1)* n+f-n=i* n+f by rw[uJ];omega]
   exact yg hC (by simpa using h) hf
theorem Dy {α:Type} {C:α→List AV} {n:Nat} (hC:∀x,(C x).length=n):∀l:List α,(l.flatMap C).length=l.length* n
 |[]=>by simp
 |y::l=>by rw[List.flatMap_cons,uN,hC,Dy hC l,Qm,uJ];omega
theorem BK {α:Type} {C:α→List AV} {n:Nat} (hC:∀x,(C x).length=n):∀{l:List α} {i:Nat} {x:α},l[i]?=some x→((l.flatMap C).drop (i* n)).take n=C x
 |[],i,x,h=>by simp at h
 | y :: l, 0, x, h => by
   obtain rfl:y=x:=by simpa using h
   rw[List.flatMap_cons,Nat.zero_mul,Qs,List.take_append_of_le_length (by rw[hC];omega),uI (by rw[hC];omega)]
 | y :: l, i + 1, x, h => by
   rw[List.flatMap_cons,List.drop_append,List.drop_of_length_le (by rw[hC,uJ];omega),List.nil_append,hC,show(i+1)* n-n=i* n by rw[uJ];omega]
   exact BK hC (by simpa using h)
def wv (n:Nat) (h:H) (v:AV) (k:Nat) (cs:List AV):Prop:=aR h n v=some (k,cs)∧cs.length=k* n∧∀s,v≠.str s
theorem Rd.DZ {h:H} {v:AV} {cs:List AV} (r:Rd h v cs):wv 1 h v cs.length cs:=⟨r.1,by omega,r.2⟩
theorem wv.len {n:Nat} {h:H} {v:AV} {k:Nat} {cs:List AV} (r:wv n h v k cs):iY false v=some (.int .i64 k):=by
 obtain⟨r,_,hs⟩:=r
 unfold aR at r
 split at r
 · obtain⟨h1,h2⟩:=ug (ue r);subst h1;rfl
 · exact absurd rfl (hs _)
 · split at r
   · simp only[ud]at r
     obtain⟨c,_,r⟩:=r
     split at r
     · obtain⟨h1,h2⟩:=ug (ue r);simp [iY,h1]
     · cases r
   · cases r
 · split at r
   · split at r
     · obtain⟨h1,h2⟩:=ug (ue r);simp [iY,h1]
     · cases r
   · cases r
 · cases r
theorem wv.mono {n:Nat} {h g:H} {v:AV} {k:Nat} {cs:List AV} (r:wv n h v k cs) (hg:∀id c,h.get id=some c→g.get id=some c):wv n g v k cs:=by
 obtain⟨r,hl,hs⟩:=r
 refine⟨?_,hl,hs⟩
 unfold aR at r ⊢
 split at r
 · exact r
 · exact r
 · split at r
   · rename_i q;simp only[if_pos q,ud]at r ⊢
     obtain⟨c,h1,r⟩:=r
     exact⟨c,hg _ _ h1,r⟩
   · cases r
 · exact r
 · cases r
theorem wv.at_ {n : Nat} {h : H} {v : AV} {k : Nat} {cs : List AV} (r : wv n h v k cs) : ∃ ad : Int → Nat → AV,
 (∀i:Int,0≤i∧i<k→fM n v (.int .i64 i)=some (ad i 0))∧
 (∀(i:Int) (f g:Nat),0≤i∧i<k→eY g (ad i f)=some (ad i (f+g)))∧
 (∀(i:Int) (f:Nat) (g:H),0≤i∧i<k→jw g (ad i f)=some (ad i f,g))∧
 (∀g:H,(∀id c,h.get id=some c→g.get id=some c)→(∀(i:Int) (f:Nat) (c:AV),0≤i∧i<k→cs[i.toNat* n+f]?=some c→bS false 1 (ad i f) g=some c)∧
   ∀i:Int,0≤i∧i<k→bS true n (ad i 0) g=some (.agg ((cs.drop (i.toNat* n)).take n))):=by
 obtain⟨r,hl,hs⟩:=r
 unfold aR at r
 split at r
 · obtain⟨h1,h2⟩:=ug (ue r);subst h1
   exact⟨fun _ _=>.bot,fun i hi=>by omega,fun i f g hi=>by omega,fun i f g hi=>by omega,fun g _=>⟨fun i f c hi=>by omega,fun i hi=>by omega⟩⟩
 · exact absurd rfl (hs _)
 · rename_i id off len s
   split at r
   · rename_i q
     subst q
     simp only[ud]at r
     obtain⟨d,hd,r⟩:=r
     split at r
     · rename_i hle
       obtain⟨h1,h2⟩:=ug (ue r)
       subst h1
       have bnd:∀i:Int,0≤i∧i<len→i.toNat* s+s≤len* s:=fun i hi=>by
        have:=uw s (show i.toNat+1≤len by omega);rw[uJ]at this;omega
       refine⟨fun i f=>.aC id (off+i.toNat* s+f),fun i hi=>by simp [fM,MK hi],fun i f g _=>by simp [eY];omega,fun i f g _=>rfl,fun g hg=>⟨fun i f c hi hc=> ?_,fun i hi=> ?_⟩⟩
       · simp only[bS,hg _ _ hd,um,gY,uo,uO]
         rw[←h2,uM]at hc
         split at hc
         · rw[uE]at hc;rw[uq];exact hc
         · cases hc
       · have:=bnd i hi
         simp only[bS,hg _ _ hd,um,gY,if_true,QH]
         rw[if_pos (by omega),←h2,List.drop_take,List.take_take,List.drop_drop,Nat.min_eq_left (by omega)]
     · cases r
   · cases r
 · rename_i t cells off len s
   split at r
   · rename_i q
     subst q
     split at r
     · rename_i hle
       obtain⟨h1,h2⟩:=ug (ue r)
       subst h1
       have bnd:∀i:Int,0≤i∧i<len→i.toNat* s+s≤len* s:=fun i hi=>by
        have:=uw s (show i.toNat+1≤len by omega);rw[uJ]at this;omega
       refine⟨fun i f=>.aJ cells (off+i.toNat* s+f),fun i hi=>by simp [fM,MK hi],fun i f g _=>by simp [eY];omega,fun i f g _=>rfl,fun g hg=>⟨fun i f c hi hc=> ?_,fun i hi=> ?_⟩⟩
       · simp only[bS,gY,uo,uO]
         rw[←h2,uM]at hc
         split at hc
         · rw[uE]at hc;rw[uq];exact hc
         · cases hc
       · have:=bnd i hi
         simp only[bS,gY,if_true,QH]
         rw[if_pos (by omega),←h2,List.drop_take,List.take_take,List.drop_drop,Nat.min_eq_left (by omega)]
     · cases r
   · cases r
 · cases r
def vr (n:Nat) (h:H) (v:AV) (k:Nat) (cs:List AV):Prop:=cs.length=k* n∧((v=.aO∧k=0)∨∃id,v=.aD id 0 k n∧h.get id=some cs∧h.floor≤id∧0<k)
theorem vr.nil {n:Nat} {h:H}:vr n h .aO 0 []:=⟨by simp,.inl ⟨rfl,rfl⟩⟩
theorem vr.mono {n:Nat} {h g:H} {v:AV} {k:Nat} {cs:List AV} (o:vr n h v k cs) (hf:g.floor=h.floor) (hg:∀i,v.id?=some i→g.get i=h.get i):vr n g v k cs:=by
 obtain⟨l,o⟩:=o
 refine⟨l, ?_⟩
 rcases o with o|⟨id,rfl,h1,h2,h3⟩
 · exact .inl o
 · exact .inr ⟨id,rfl,by rw[hg id rfl];exact h1,by rw[hf];exact h2,h3⟩
theorem vr.sc {n:Nat} {h:H} {v:AV} {k:Nat} {cs:List AV} (o:vr n h v k cs):v.sc=true:=by
 rcases o.2 with ⟨rfl,_⟩|⟨id,rfl,_⟩<;>rfl
theorem vr.lt {n:Nat} {h:H} {v:AV} {k:Nat} {cs:List AV} (o:vr n h v k cs) {i:Nat} (hi:v.id?=some i):h.floor≤i∧i<h.next:=by
 rcases o.2 with ⟨rfl,_⟩|⟨id,rfl,h1,h2⟩
 · cases hi
 · obtain rfl:=ue hi;exact⟨h2.1,h.lt _ _ h1⟩
theorem vr.rd {n:Nat} {h:H} {v:AV} {k:Nat} {cs:List AV} (o:vr n h v k cs):wv n h v k cs:=by
 obtain⟨l,o⟩:=o
 rcases o with ⟨rfl,rfl⟩|⟨id,rfl,h1,h2⟩
 · have:cs=[]:=Qw (by omega)
   subst this
   exact⟨rfl,by simp,fun _=>by simp⟩
 · refine⟨?_,l,fun _=>by simp⟩
   simp only[aR,if_true,h1,um,uy]
   rw[if_pos (by omega),Qs,uI (by omega)]
theorem vr.app {n:Nat} {h:H} {v:AV} {k:Nat} {cs:List AV} (o:vr n h v k cs) (hfn:h.floor≤h.next) {z m:Nat} (hm:0<m) (hn:0<n) (bs:List AV) (hb:bs.length=m* n) (hc:AV.aB bs=true) (hr:roomy z (k+m)=true):
 ∃v' h',dP h n z v m bs=some (v',h')∧vr n h' v' (k+m) (cs++bs)∧h'.floor=h.floor∧h.next≤h'.next∧(∀i,v.id?≠some i→i≠h.next→h'.get i=h.get i)∧v'.id?=some h.next:=by
 obtain⟨hl,o⟩:=o
 have hll:(cs++bs).length=(k+m)* n:=by rw[uN,hl,hb,uJ]
 rcases o with ⟨rfl,rfl⟩|⟨id,rfl,hg,hf,_⟩
 · have:cs=[]:=Qw (by omega)
   subst this
   refine⟨.aD h.next 0 m n,h.alloc bs, ?_,⟨hll,.inr ⟨h.next,by simp,by simp [H.aV],by simp;omega,by omega⟩⟩,by simp,by simp,fun i _ hi=>by rw[H.aV,if_neg hi],rfl⟩
   unfold dP
   rw[if_neg (by omega),if_neg (by simp [hc];omega)]
   rw[uy]at hr
   simp only[hr,if_true]
 · have hmn:0<m* n:=Nat.mul_pos hm hn
   have hnot:¬0+(k+m)* n≤cs.length:=by rw[hl,uJ];omega
   refine⟨.aD h.next 0 (k+m) n,(h.del id).alloc (cs++bs), ?_,⟨hll,.inr ⟨h.next,by simp,by simp [H.aV], ?_,by omega⟩⟩,by simp,by simp,fun i h1 h2=> ?_,rfl⟩
   · unfold dP
     rw[if_neg (by omega),if_neg (by simp [hc];omega)]
     simp only[hf,and_self,if_true,hg,um]
     rw[if_neg hnot,if_pos ⟨by omega,hr⟩]
     simp
   · have:=h.lt id cs hg;simp;omega
   · rw[H.aV,H.ju,if_neg h2,H.dX,if_neg]
     intro e;subst e;exact h1 rfl
theorem vr.push {n:Nat} {h:H} {v:AV} {k:Nat} {cs:List AV} (o:vr n h v k cs) (hfn:h.floor≤h.next) {z m:Nat} (hm:0<m) (hn:0<n) (bs:List AV) (hb:bs.length=m* n) (hc:AV.aB bs=true) (hr:roomy z (k+m)=true):
 ∃v' h',kz (h.alloc bs) n z v (.aD h.next 0 m n)=some (v',h')∧vr n h' v' (k+m) (cs++bs)∧h'.floor=h.floor∧h.next+1≤h'.next∧(∀i,v.id?≠some i→i<h.next→h'.get i=h.get i)∧v'.id?=some (h.next+1):=by
 have o1:vr n (h.alloc bs) v k cs:=o.mono (by simp) fun i q=>by rw[H.aV,if_neg];have:=o.lt q;omega
 obtain⟨v',h',p1,p2,p3,p4,p5,p6⟩:=o1.app (z:=z) (by simp;omega) hm hn bs hb hc hr
 refine⟨v',h', ?_,p2,by rw[p3];simp,by simpa using p4,fun i q1 q2=> ?_,by simpa using p6⟩
 · have src:aR (h.alloc bs) n (.aD h.next 0 m n)=some (m,bs):=by
    simp only[aR,if_true,H.aV,um,uy]
    rw[if_pos (by omega),Qs,uI (by omega)]
   unfold kz;rw[src,um];exact p1
 · rw[p5 i q1 (by simp;omega),H.aV,if_neg (by omega)]
def Eb (n k:Nat) (cs:List AV):AV:=if k=0 then .aO else .aU false cs 0 k n
theorem B5 {n k:Nat} {h:H} {cs:List AV} (hl:cs.length=k* n):wv n h (Eb n k cs) k cs:=by
 unfold Eb
 by_cases hk:k=0
 · subst hk
   have:cs=[]:=Qw (by omega)
   subst this
   exact⟨rfl,by simp,fun _=>by simp⟩
 · rw[if_neg hk]
   refine⟨?_,hl,fun _=>by simp⟩
   simp only[aR,if_true,uy]
   rw[if_pos (by omega),Qs,uI (by omega)]
theorem vr.Bs {n:Nat} {h:H} {v:AV} {k:Nat} {l:List Int} {fl m:Nat} {t:Bool} (o:vr n h v k (ints l)) (hf:fl≤h.floor):snap h.get fl (m+2) t v=some (Eb n k (ints l)):=by
 obtain⟨hl,o⟩:=o
 rw[o9]at hl
 rcases o with ⟨rfl,rfl⟩|⟨id,rfl,q,h2,hk⟩
 · rfl
 · unfold snap
   rw[if_neg (by omega),q,um,if_pos (by rw[o9];omega)]
   rw[Qs,uI (by rw[o9];omega),wS]
   unfold Eb
   rw[if_neg (by omega)];rfl
attribute [go_sem] List.map_cons List.map_nil Bool.and_true Bool.true_and Bool.and_self List.append_nil Option.map_some Option.map_none Bool.and_false Bool.false_and Bool.or_false Bool.or_true Bool.true_or Bool.false_or Bool.or_self bW.aN bW.aH Int.reduceAdd Int.reduceSub Int.reduceMul Int.reduceNeg Int.reduceToNat List.take_succ_cons List.take_zero List.drop_zero List.drop_succ_cons Int.cast_ofNat_Int Int.natCast_one Int.natCast_zero List.length_set
theorem uX:type_of% @dt∧type_of% @df∧type_of% @O1∧type_of% @Kr∧type_of% @Mk∧type_of% @Im∧type_of% @wi∧type_of% @wb∧type_of% @yX∧type_of% @BN∧type_of% @GQ∧type_of% @wD∧type_of% @MK∧type_of% @uW∧type_of% @u6∧type_of% @uZ∧type_of% @uU∧type_of% @H.jm∧type_of% @H.j3∧type_of% @H.kN∧type_of% @H.jv∧type_of% @GJ∧type_of% @vM∧type_of% @FE∧type_of% @FD∧type_of% @DS∧type_of% @Ag∧type_of% @xE∧type_of% @BF∧type_of% @Af∧type_of% @Gn∧type_of% @Gp∧type_of% @po∧type_of% @oP∧type_of% @qU∧type_of% @pD∧type_of% @FP∧type_of% @FO∧type_of% @sh∧type_of% @si∧type_of% @Ct∧type_of% @BR∧type_of% @Fa∧type_of% @E9∧type_of% @E8∧type_of% @DG∧type_of% @Ii∧type_of% @FL∧type_of% @IH∧type_of% @IG∧type_of% @IE∧type_of% @ID∧type_of% @IF∧type_of% @IB∧type_of% @BE∧type_of% @Co∧type_of% @Cr∧type_of% @Cp∧type_of% @A5∧type_of% @zY∧type_of% @Ae∧type_of% @Cq∧type_of% @zm∧type_of% @BV∧type_of% @Ge∧type_of% @BL∧type_of% @BZ∧type_of% @BX∧type_of% @IA∧type_of% @Iz∧type_of% @tq∧type_of% @beq_refl∧type_of% @vY∧type_of% @IC∧type_of% @Ic∧type_of% @GI∧type_of% @GH∧type_of% @GG∧type_of% @AJ∧type_of% @C9∧type_of% @zU∧type_of% @Bt:=⟨@dt, @df, @O1, @Kr, @Mk, @Im, @wi, @wb, @yX, @BN, @GQ, @wD, @MK, @uW, @u6, @uZ, @uU, @H.jm, @H.j3, @H.kN, @H.jv, @GJ, @vM, @FE, @FD, @DS, @Ag, @xE, @BF, @Af, @Gn, @Gp, @po, @oP, @qU, @pD, @FP, @FO, @sh, @si, @Ct, @BR, @Fa, @E9, @E8, @DG, @Ii, @FL, @IH, @IG, @IE, @ID, @IF, @IB, @BE, @Co, @Cr, @Cp, @A5, @zY, @Ae, @Cq, @zm, @BV, @Ge, @BL, @BZ, @BX, @IA, @Iz, @tq, @beq_refl, @vY, @IC, @Ic, @GI, @GH, @GG, @AJ, @C9, @zU, @Bt⟩
theorem Ch:type_of% @zl∧type_of% @y9∧type_of% @y8∧type_of% @BT∧type_of% @BJ∧type_of% @ye∧type_of% @D0∧type_of% @Gx∧type_of% @Gv∧type_of% @GF∧type_of% @Ix∧type_of% @Iv∧type_of% @Iw∧type_of% @Iy∧type_of% @Ff∧type_of% @Ia∧type_of% @H7∧type_of% @H9∧type_of% @H8∧type_of% @D5∧type_of% @vB∧type_of% @vG∧type_of% @AQ∧type_of% @AO:=⟨@zl, @y9, @y8, @BT, @BJ, @ye, @D0, @Gx, @Gv, @GF, @Ix, @Iv, @Iw, @Iy, @Ff, @Ia, @H7, @H9, @H8, @D5, @vB, @vG, @AQ, @AO⟩
theorem wz:type_of% @H.j3∧type_of% @H.jv∧type_of% @BT∧type_of% @zl∧type_of% @H.jm∧type_of% @H.kN∧type_of% @BJ∧type_of% @y8:=⟨@H.j3, @H.jv, @BT, @zl, @H.jm, @H.kN, @BJ, @y8⟩
theorem AA:type_of% @uW∧type_of% @u6∧type_of% @uZ∧type_of% @uU∧type_of% @ye∧type_of% @y9:=⟨@uW, @u6, @uZ, @uU, @ye, @y9⟩
end Ab
set_option maxRecDepth 100000
namespace Ab
open Go
theorem wrap_u32 {n:Nat} (h:n<4294967296):IntKind.wrap .u32 (n:Int)=n:=by
 have e:IntKind.wrap .u32 (n:Int)=(n:Int)%4294967296:=by simp [IntKind.wrap,IntKind.bits,IntKind.signed]
 rw[e];omega
theorem EX (n:Int):IntKind.wrap .u32 n=n%4294967296:=by simp [IntKind.wrap,IntKind.bits,IntKind.signed]
theorem wu {n:Int} (h:0≤n∧n<4294967296):IntKind.wrap .u32 n=n:=by rw[EX];omega
theorem xN {a b:Nat} (ha:a<4294967296) (hb:b<4294967296):a^^^b<4294967296:=Nat.xor_lt_two_pow (n:=32) ha hb
theorem xe {a b:Nat} (ha:a<4294967296) (hb:b<4294967296):bits .xor .u32 (a:Int) (b:Int)=((a^^^b:Nat):Int):=by
 have h3:=xN ha hb
 show IntKind.wrap .u32 (((BitVec.ofInt 32 (a:Int)^^^BitVec.ofInt 32 (b:Int)).toNat:Nat):Int)=_
 rw[BitVec.toNat_xor,wA 32 a (by omega),wA 32 b (by omega)]
 exact wrap_u32 h3
theorem Ah {a:Nat} (ha:a<4294967296):bits .and .u32 (a:Int) 1=((a%2:Nat):Int):=by
 show IntKind.wrap .u32 (((BitVec.ofInt 32 (a:Int)&&&BitVec.ofInt 32 ((1:Nat):Int)).toNat:Nat):Int)=_
 rw[BitVec.toNat_and,wA 32 a (by omega),wA 32 1 (by omega),Nat.and_one_is_mod]
 exact wrap_u32 (by omega)
theorem D9 {a:Nat} (ha:a<4294967296):oQ .shr .u32 (a:Int) 1=some (.int .u32 ((a/2:Nat):Int)):=by
 unfold oQ
 rw[if_neg (by omega)]
 have e:(2:Int)^min (Int.toNat 1) IntKind.u32.bits=2:=by decide
 rw[e]
 show some (AV.int .u32 _)=_
 rw[Int.fdiv_eq_ediv_of_nonneg _ (by omega)]
 rfl
theorem BQ {h:H} {a:Nat} (ha:a<4294967296):sk h (.int .u32 (a:Int))=some (.int .u32 ((4294967295-a:Nat):Int),h):=by
 rw[tw]
 have e:(if IntKind.u32.signed then-1 else IntKind.u32.max)=((4294967295:Nat):Int):=by decide
 rw[e,xe (by omega) ha]
 have h2:4294967295^^^a=4294967295-a:=by
  have h1:a<2^32:=by simpa using ha
  have:4294967295-a=2^32-(a+1):=by omega
  rw[this]
  apply Nat.eq_of_testBit_eq
  intro i
  rw[Nat.testBit_two_pow_sub_succ h1,Nat.testBit_xor,show 4294967295=2^32-1 from rfl,Nat.testBit_two_pow_sub_one]
  by_cases hi:i<32
  · simp [hi]
  · have:a.testBit i=false:=Nat.testBit_lt_two_pow (Nat.lt_of_lt_of_le h1 (QA (by omega) (by omega)))
    simp [hi,this]
 rw[h2]
def yS (c:Nat):Nat:=if c%2=1 then(c/2)^^^3988292384 else c/2
def y5:Nat→Nat→Nat
 |0,c=>c
 |n+1,c=>y5 n (yS c)
def xa (c b:Nat):Nat:=y5 8 (c^^^b)
def wQ (s:ByteArray):Nat→Nat→Nat→Nat
 |0,_,c=>c
 |n+1,i,c=>wQ s n (i+1) (xa c (xC s i))
theorem zA {c:Nat} (h:c<4294967296):yS c<4294967296:=by
 unfold yS;split
 · exact xN (by omega) (by omega)
 · omega
theorem Ak:∀(n:Nat) {c:Nat},c<4294967296→y5 n c<4294967296
 |0,_,h=>h
 |n+1,_,h=>Ak n (zA h)
theorem xR {c b:Nat} (hc:c<4294967296) (hb:b<256):xa c b<4294967296:=Ak 8 (xN hc (by omega))
theorem zB (s:ByteArray):∀(n i:Nat) {c:Nat},c<4294967296→wQ s n i c<4294967296
 |0,_,_,h=>h
 |n+1,i,_,h=>zB s n (i+1) (xR h (yN s i))
theorem Bf (a b d:AV) (h:H):∀(n c k:Nat),k+n=8→c<4294967296→
 ∃e',Lp AP.A [1,5,12,13,22] AP.f103L0 [(1,a),(5,.int .u32 c),(12,b),(13,d),(22,.int .i64 k)] h=some (.exit 2,e',h)∧look e' 1=a∧look e' 5=.int .u32 (y5 n c:Nat)∧look e' 12=b∧look e' 13=d
 | 0, c, k, hk, hc => by
   refine⟨[(1,a),(5,.int .u32 c),(12,b),(13,d),(22,.int .i64 k),(23,.bool false)],sN ?_,rfl,rfl,rfl,rfl⟩
   simp (disch:=omega)only[go_sem,uX,AP.f103L0]
 | n + 1, c, k, hk, hc => by
   obtain⟨e',r1,r2,r3,r4,r5⟩:=Bf a b d h n (yS c) (k+1) (by omega) (zA hc)
   have n1:((k+1:Nat):Int)=(k:Int)+1:=by omega
   have x1:=xe (a:=c/2) (b:=3988292384) (by omega) (by omega)
   have a1:=Ah hc
   have s1:=D9 hc
   refine⟨e',sP ?_ r1,r2,r3,r4,r5⟩
   rw[n1]
   unfold yS
   by_cases p:c%2=1
   · rw[if_pos p]
     rw[show((3988292384:Nat):Int)=3988292384 from rfl]at x1
     simp (disch:=omega)only[go_sem,uX,AP.f103L0,a1,s1,x1]
   · rw[if_neg p]
     simp (disch:=omega)only[go_sem,uX,AP.f103L0,a1,s1]
theorem Bg (s:ByteArray) (hs:s.size<1125899906842624) (h:H):∀(n i c:Nat),i+n=s.size→c<4294967296→
 ∃e',Lp AP.A [1,5,12,13] AP.f103L1 [(1,.str s),(5,.int .u32 c),(12,.int .i64 s.size),(13,.int .i64 i)] h=some (.exit 0,e',h)∧look e' 5=.int .u32 (wQ s n i c:Nat)
 | 0, i, c, hi, hc => by
   refine⟨[(1,.str s),(5,.int .u32 c),(12,.int .i64 s.size),(13,.int .i64 i),(14,.bool false)],sN ?_,rfl⟩
   simp (disch:=omega)only[go_sem,uX,AP.f103L1]
 | n + 1, i, c, hi, hc => by
   have hb:=yN s i
   obtain⟨e',r1,r2⟩:=Bg s hs h n (i+1) (xa c (xC s i)) (by omega) (xR hc hb)
   obtain⟨e1,q1,q2,q3,q4,q5⟩:=Bf (.str s) (.int .i64 s.size) (.int .i64 i) h 8 (c^^^xC s i) 0 rfl (xN hc (by omega))
   have q1':Lp AP.A [1,5,12,13,22] AP.f103L0 [(1,.str s),(5,.int .u32 (c^^^xC s i:Nat)),(12,.int .i64 s.size),(13,.int .i64 i),(22,.int .i64 0)] h=some (.exit 2,e1,h):=q1
   clear q1
   have x1:=xe hc (show xC s i<4294967296 by omega)
   have n1:((i+1:Nat):Int)=(i:Int)+1:=by omega
   refine⟨e',sP ?_ r1,r2⟩
   rw[n1]
   unfold xa
   simp (disch:=omega)only[go_sem,uX,AP.f103L1,wu,x1,rH,q1',q2,q3,q4,q5]
def vT (a:Nat) (s:ByteArray):Nat:=4294967295-wQ s s.size 0 (4294967295-a)
theorem zh (a:Nat) (s:ByteArray):vT a s<4294967296:=by unfold vT;omega
theorem DA (h:H) (s:ByteArray) (a:Nat) (ha:a<4294967296) (hs:s.size<1125899906842624):aQ AP.A 103 [.int .i64 a,.str s] h=some (.int .i64 (vT a s:Nat),h):=by
 obtain⟨e',r1,r2⟩:=Bg s hs h.dU s.size 0 (4294967295-a) (by omega) (by omega)
 have r1':Lp AP.A [1,5,12,13] AP.f103L1 [(1,.str s),(5,.int .u32 (4294967295-a:Nat)),(12,.int .i64 s.size),(13,.int .i64 0)] h.dU=some (.exit 0,e',h.dU):=r1
 clear r1
 have lt:=zB s s.size 0 (c:=4294967295-a) (by omega)
 have v1:∀g:H,sk g (.int .u32 (a:Int))=some (.int .u32 ((4294967295-a:Nat):Int),g):=fun g=>BQ ha
 have v2:∀g:H,sk g (.int .u32 (wQ s s.size 0 (4294967295-a):Nat))=some (.int .u32 ((4294967295-wQ s s.size 0 (4294967295-a):Nat):Int),g):=fun g=>BQ lt
 refine tB (fn:=AP.f103) (h2:=h.dU) (e:=[(4,.int .i64 (vT a s:Nat))]) rfl rfl rfl ?_ rfl rfl
 unfold vT
 simp (disch:=omega)only[go_sem,uX,AP.f103,wu,v1,v2,rH,r1',r2]
def yU (x:Int):Bool:=decide (0≤x∧x≤4294967295)
theorem HD (h:H) (x:Int):aQ AP.A 105 [.int .i64 x] h=some (.bool (yU x),h):=by
 refine tB (fn:=AP.f105) (h2:=h.dU) (e:=[(2,.bool (yU x))]) rfl rfl rfl ?_ rfl rfl
 unfold yU
 by_cases c1:0≤x
 · by_cases c2:x≤4294967295
   · simp (disch:=omega)only[go_sem,uX,AP.f105]
   · simp (disch:=omega)only[go_sem,uX,AP.f105]
 · simp (disch:=omega)only[go_sem,uX,AP.f105]
def wq (s:ByteArray):Nat:=vT 0 s
theorem CT (h:H) (s:ByteArray) (hs:s.size<1125899906842624):aQ AP.A 115 [.str s] h=some (.int .i64 (wq s:Nat),h):=by
 have k1:=DA h.dU s 0 (by omega) hs
 have k1':aQ AP.A 103 [.int .i64 0,.str s] h.dU=some (.int .i64 (wq s:Nat),h.dU):=k1
 refine tB (fn:=AP.f115) (h2:=h.dU) (e:=[(2,.int .i64 (wq s:Nat))]) rfl rfl rfl ?_ rfl rfl
 simp (disch:=omega)only[go_sem,uX,AP.f115,k1']
theorem Bz (a d:AV) (h:H):∀(n c k:Nat),k+n=8→c<4294967296→
 ∃e',Lp AP.A [0,1,5,6] AP.f111L0 [(0,.int .u32 c),(1,a),(5,d),(6,.int .i64 k)] h=some (.exit 2,e',h)∧look e' 1=a∧look e' 0=.int .u32 (y5 n c:Nat)∧look e' 5=d
 | 0, c, k, hk, hc => by
   refine⟨[(0,.int .u32 c),(1,a),(5,d),(6,.int .i64 k),(20,.bool false)],sN ?_,rfl,rfl,rfl⟩
   simp (disch:=omega)only[go_sem,uX,AP.f111L0]
 | n + 1, c, k, hk, hc => by
   obtain⟨e',r1,r2,r3,r4⟩:=Bz a d h n (yS c) (k+1) (by omega) (zA hc)
   have n1:((k+1:Nat):Int)=(k:Int)+1:=by omega
   have x1:=xe (a:=c/2) (b:=3988292384) (by omega) (by omega)
   have a1:=Ah hc
   have s1:=D9 hc
   refine⟨e',sP ?_ r1,r2,r3,r4⟩
   rw[n1]
   unfold yS
   by_cases p:c%2=1
   · rw[if_pos p]
     rw[show((3988292384:Nat):Int)=3988292384 from rfl]at x1
     simp (disch:=omega)only[go_sem,uX,AP.f111L0,a1,s1,x1]
   · rw[if_neg p]
     simp (disch:=omega)only[go_sem,uX,AP.f111L0,a1,s1]
theorem BA (s:ByteArray) (hs:s.size<1125899906842624) (h:H):∀(n i c:Nat),i+n=s.size→c<4294967296→
 ∃e',Lp AP.A [0,1,5] AP.f111L1 [(0,.int .u32 c),(1,.str s),(5,.int .i64 i)] h=some (.exit 0,e',h)∧look e' 0=.int .u32 (wQ s n i c:Nat)
 | 0, i, c, hi, hc => by
   refine⟨[(0,.int .u32 c),(1,.str s),(5,.int .i64 i),(10,.bool false)],sN ?_,rfl⟩
   simp (disch:=omega)only[go_sem,uX,AP.f111L1]
 | n + 1, i, c, hi, hc => by
   have hb:=yN s i
   obtain⟨e',r1,r2⟩:=BA s hs h n (i+1) (xa c (xC s i)) (by omega) (xR hc hb)
   obtain⟨e1,q1,q2,q3,q4⟩:=Bz (.str s) (.int .i64 i) h 8 (c^^^xC s i) 0 rfl (xN hc (by omega))
   have q1':Lp AP.A [0,1,5,6] AP.f111L0 [(0,.int .u32 (c^^^xC s i:Nat)),(1,.str s),(5,.int .i64 i),(6,.int .i64 0)] h=some (.exit 2,e1,h):=q1
   clear q1
   have x1:=xe hc (show xC s i<4294967296 by omega)
   have n1:((i+1:Nat):Int)=(i:Int)+1:=by omega
   refine⟨e',sP ?_ r1,r2⟩
   rw[n1]
   unfold xa
   simp (disch:=omega)only[go_sem,uX,AP.f111L1,wu,x1,rH,q1',q2,q3,q4]
theorem ME (h:H) (s:ByteArray) (c:Nat) (hc:c<4294967296) (hs:s.size<1125899906842624):aQ AP.A 111 [.int .u32 c,.str s] h=some (.int .u32 (wQ s s.size 0 c:Nat),h):=by
 obtain⟨e',r1,r2⟩:=BA s hs h.dU s.size 0 c (by omega) hc
 have r1':Lp AP.A [0,1,5] AP.f111L1 [(0,.int .u32 c),(1,.str s),(5,.int .i64 0)] h.dU=some (.exit 0,e',h.dU):=r1
 clear r1
 refine tB (fn:=AP.f111) (h2:=h.dU) (e:=[(4,.int .u32 (wQ s s.size 0 c:Nat))]) rfl rfl rfl ?_ rfl rfl
 simp (disch:=omega)only[go_sem,uX,AP.f111,rH,r1',r2]
theorem Kh (h:H) (s:ByteArray) (hs:s.size<1125899906842624):aQ AP.A 101 [.str s] h=some (.int .i64 (wq s:Nat),h):=by
 have k1:=ME h.dU s 4294967295 (by omega) hs
 have k1':aQ AP.A 111 [.int .u32 4294967295,.str s] h.dU=some (.int .u32 (wQ s s.size 0 4294967295:Nat),h.dU):=k1
 have lt:=zB s s.size 0 (c:=4294967295) (by omega)
 have v2:∀g:H,sk g (.int .u32 (wQ s s.size 0 4294967295:Nat))=some (.int .u32 (wq s:Nat),g):=fun g=>BQ lt
 have lt2:=zh 0 s
 unfold wq at v2 ⊢
 refine tB (fn:=AP.f101) (h2:=h.dU) (e:=[(2,.int .i64 (vT 0 s:Nat))]) rfl rfl rfl ?_ rfl rfl
 simp (disch:=omega)only[go_sem,uX,AP.f101,k1',v2]
theorem Gz {a s:Nat} (hs:s≤64):oQ .shr .i64 (a:Int) (s:Int)=some (.int .i64 ((a/2^s:Nat):Int)):=by
 unfold oQ
 rw[if_neg (by omega)]
 simp only[IntKind.bits,Int.toNat_natCast,Nat.min_eq_left hs]
 rw[Int.fdiv_eq_ediv_of_nonneg _ (Int.pow_nonneg (by omega))]
 simp
theorem GV (n:Nat):IntKind.wrap .u8 (n:Int)=((n%256:Nat):Int):=by rw[GU];omega
def FV (x i:Nat):Nat:=x/2^(8* i)%256
def vt (x k:Nat):List Nat:=(List.range k).map (FV x)
theorem EM (x k:Nat):vt x (k+1)=vt x k++[FV x k]:=by simp [vt,List.range_succ]
theorem vo (x k:Nat):(vt x k).length=k:=by simp [vt]
def FU (x k:Nat):ByteArray:=bytesOf (vt x k)
theorem Fi {h:H} {v:AV} {k:Nat} {l:List Nat} (o:vr 1 h v k (yt l)):tn h v (aR h 1 v)=some (.str (bytesOf l),h):=by
 rw[o.rd.1]
 simp only[tn,um,BD]
 rcases o.2 with ⟨rfl,_⟩|⟨id,rfl,_⟩<;>rfl
theorem yO (a b:List Nat):yt (a++b)=yt a++yt b:=by simp [yt]
theorem CP (x k id:Nat) (hk:k≤8):∀(m i:Nat) (h:H),i+m=k→h.get id=some (yt (vt x i++List.replicate m 0))→h.floor≤id→
 ∃e' h',Lp AP.A [0,5,10,11] AP.f104L0 [(0,.int .i64 x),(5,.aD id 0 k 1),(10,.int .i64 k),(11,.int .i64 i)] h=some (.exit 0,e',h')∧look e' 5=.aD id 0 k 1∧h'.get id=some (yt (vt x k))∧h'.floor=h.floor
 | 0, i, h, hi, hg, hf => by
   obtain rfl:i=k:=by omega
   refine⟨[(0,.int .i64 x),(5,.aD id 0 i 1),(10,.int .i64 i),(11,.int .i64 i),(12,.bool false)],h,sN ?_,rfl,by simpa using hg,rfl⟩
   simp (disch:=omega)only[go_sem,uX,AP.f104L0]
 | m + 1, i, h, hi, hg, hf => by
   have g2:(h.set id (yt (vt x (i+1)++List.replicate m 0))).get id=some (yt (vt x (i+1)++List.replicate m 0)):=by rw[uZ rfl,hg];rfl
   obtain⟨e',h',r1,r2,r3,r4⟩:=CP x k id hk m (i+1) _ (by omega) g2 (by simpa using hf)
   have n1:((i+1:Nat):Int)=(i:Int)+1:=by omega
   have n2:(8:Int)* (i:Int)=((8* i:Nat):Int):=by omega
   have s1:=Gz (a:=x) (s:=8* i) (by omega)
   have w1:=GV (x/2^(8* i))
   have st:tD h id i 1 [.int .u8 ((x/2^(8* i)%256:Nat):Int)] (some (yt (vt x i++List.replicate (m+1) 0)))=some (h.set id (yt (vt x (i+1)++List.replicate m 0))):=by
    rw[tV hf (by simp [vo]) rfl]
    congr 2
    rw[EM,yO,yO,yO,List.set_append_right _ _ (by simp [vo]),List.append_assoc]
    simp [vo,yt,List.replicate_succ,FV]
   refine⟨e',h',sP ?_ r1,r2,r3,by rw[r4];simp⟩
   rw[n1]
   simp (disch:=omega)only[go_sem,uX,AP.f104L0,n2,s1,w1,hg,st]
theorem yI (h:H) (x k:Nat) (hk:k≤8) (hk0:0<k):aQ AP.A 104 [.int .i64 x,.int .i64 k] h=some (.str (FU x k),h):=by
 obtain⟨h1,eh1⟩:∃g,g=h.dU.alloc (AB k [.int .u8 0]):=⟨_,rfl⟩
 have hz:AB k [.int .u8 0]=yt (vt x 0++List.replicate k 0):=by
  unfold AB;rw[B7];simp [yt,vt]
 have g1:h1.get h.next=some (yt (vt x 0++List.replicate k 0)):=by rw[eh1,uW (by simp),hz]
 obtain⟨e',h',r1,r2,r3,r4⟩:=CP x k h.next hk k 0 h1 (by omega) g1 (by rw[eh1];simp)
 have r1':Lp AP.A [0,5,10,11] AP.f104L0 [(0,.int .i64 x),(5,.aD h.next 0 k 1),(10,.int .i64 k),(11,.int .i64 0)] h1=some (.exit 0,e',h'):=r1
 clear r1
 have o:vr 1 h' (.aD h.next 0 k 1) k (yt (vt x k)):=⟨by simp [vo],.inr ⟨h.next,rfl,r3,by rw[r4,eh1];simp,hk0⟩⟩
 have b:=Fi o
 have hn:h.dU.next=h.next:=rfl
 refine tB (fn:=AP.f104) (h2:=h') (e:=[(4,.str (FU x k))]) rfl rfl rfl ?_ rfl rfl
 unfold FU
 simp (disch:=omega)only[go_sem,uX,AP.f104,rH,hn,←eh1,r1',r2,b]
end Ab
