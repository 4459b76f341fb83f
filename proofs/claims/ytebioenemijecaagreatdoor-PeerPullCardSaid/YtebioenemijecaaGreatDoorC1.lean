/- Part C1. -/
import Derived.KernelRfl
import Derived.Test.YtebioenemijecaaGreatDoorAP
set_option linter.unusedSimpArgs false
set_option linter.unusedVariables false
namespace Ab
open Go
theorem aaU:type_of% @decide_eq_false:= @decide_eq_false
theorem aaV:type_of% @List.length_cons:= @List.length_cons
theorem aaW:type_of% @decide_eq_true:= @decide_eq_true
theorem aaX:type_of% @List.length_nil:= @List.length_nil
theorem aaY:type_of% @Option.map_some:= @Option.map_some
theorem aaZ:type_of% @List.getD_eq_getElem?_getD:= @List.getD_eq_getElem?_getD
theorem aa0:type_of% @List.length_map:= @List.length_map
theorem aa1:type_of% @decide_eq_true_eq:= @decide_eq_true_eq
theorem aa2:type_of% @List.append_nil:= @List.append_nil
theorem aa3:type_of% @Bool.true_and:= @Bool.true_and
theorem aa4:type_of% @Bool.false_and:= @Bool.false_and
theorem aa5:type_of% @List.map_cons:= @List.map_cons
theorem aa6:type_of% @List.mem_map:= @List.mem_map
theorem aa7:type_of% @List.eq_nil_of_length_eq_zero:= @List.eq_nil_of_length_eq_zero
theorem aa8:type_of% @List.drop_zero:= @List.drop_zero
theorem aa9:type_of% @Bool.and_false:= @Bool.and_false
theorem aba:type_of% @List.all_eq_true:= @List.all_eq_true
theorem abb:type_of% @Nat.pow_le_pow_right:= @Nat.pow_le_pow_right
theorem abc:type_of% @Option.map_none:= @Option.map_none
theorem abd:type_of% @Int.eq_ofNat_of_zero_le:= @Int.eq_ofNat_of_zero_le
theorem abe:type_of% @List.getElem?_eq_getElem:= @List.getElem?_eq_getElem
theorem abf:type_of% @List.getElem?_append_left:= @List.getElem?_append_left
theorem abg:type_of% @List.map_append:= @List.map_append
theorem abh:type_of% @List.flatMap_cons:= @List.flatMap_cons
theorem abi:type_of% @List.getElem?_set:= @List.getElem?_set
theorem abj:type_of% @List.getElem?_append_right:= @List.getElem?_append_right
theorem abk:type_of% @List.length_replicate:= @List.length_replicate
theorem abl:type_of% @Nat.add_zero:= @Nat.add_zero
theorem abm:type_of% @Bool.and_self:= @Bool.and_self
theorem abn:type_of% @List.map_nil:= @List.map_nil
theorem abo:type_of% @List.length_pos_iff:= @List.length_pos_iff
theorem abp:type_of% @Bool.false_or:= @Bool.false_or
theorem abq:type_of% @Int.toNat_natCast:= @Int.toNat_natCast
theorem abr:type_of% @List.mem_filter:= @List.mem_filter
theorem abt:type_of% @congrArg:= @congrArg
theorem abu:type_of% @Nat.mul_one:= @Nat.mul_one
theorem abv:type_of% @List.length_filter_le:= @List.length_filter_le
theorem abw:type_of% @List.map_map:= @List.map_map
theorem abx:type_of% @List.map_singleton:= @List.map_singleton
theorem aby:type_of% @List.filter_cons:= @List.filter_cons
theorem abz:type_of% @List.length_set:= @List.length_set
theorem abA:type_of% @List.mem_append:= @List.mem_append
theorem abB:type_of% @List.nil_append:= @List.nil_append
theorem abC:type_of% @List.length_take:= @List.length_take
theorem abD:type_of% @Bool.and_true:= @Bool.and_true
theorem abE:type_of% @List.all_cons:= @List.all_cons
attribute [local congr] vg
def Au (l:List Int) (n:Nat):Nat:=if n=0 then 0 else l.countP (fun x=>x==(n:Int))
def syms (l:List Int) (n:Nat):List Int:=if n=0 then []else l.zipIdx.filterMap fun p=>if p.1=(n:Int)then some (p.2:Int)else none
theorem Da (p:List Int) (x:Int) (n:Nat):Au (p++[x]) n=Au p n+if n≠0∧x=(n:Int)then 1 else 0:=by
 unfold Au
 by_cases hn:n=0
 · simp [hn]
 · simp [hn,List.countP_append,List.countP_cons]
theorem Eb (p:List Int) (x:Int) (n:Nat):syms (p++[x]) n=syms p n++if n≠0∧x=(n:Int)then [(p.length:Int)]else []:=by
 unfold syms
 by_cases hn:n=0
 · simp [hn]
 · simp [hn,List.zipIdx_append,List.filterMap_append]
   split<;>simp_all
theorem Ck (l:List Int) (n:Nat):(syms l n).length≤l.length:=by
 unfold syms
 split
 · simp
 · refine xq (List.length_filterMap_le _ _) ?_
   simp
theorem B8 (l:List Int) (n:Nat):Au l n≤l.length:=by
 unfold Au
 split
 · omega
 · exact List.countP_le_length
structure Bk (h0 h:H) (b:Nat) (C:Nat→AV) (p:List Int):Prop where
 get:h.get b=some (oV 49 C)
 fl:h.floor=h0.next
 fb:h0.next≤b
 nx:h.floor≤h.next
 low:∀id,id<h0.next→h.get id=h0.get id
 Qs:∀n,n<16→C (16+n)=I (Au p n)
 own:∀n,n<16→oU h (C (32+n)) (ints (syms p n))
 nb:∀n,n<16→(C (32+n)).id?≠some b
 JX:∀n m,n<16→m<16→n≠m→∀i,(C (32+n)).id?=some i→(C (32+m)).id?≠some i
set_option maxHeartbeats 1000000 in
theorem Lw (h0 h : H) (b : Nat) (C : Nat → AV) (p : List Int) (n : Nat) (x : AV) (N : Int) (bk : Bk h0 h b C p) (hn1 : 0 < n) (hn : n < 16) (hp : p.length < 100000) (hel : ∃ a, gZ 1 x (I p.length) = some a ∧ ∀ g : H, (∀ id c, h0.get id = some c → g.get id = some c) → cf false 1 a g = some (I n)) (hN : (p.length : Int) < N) :
 ∃h' C',aO (aU AP.A) bH AP.f41L1 [(3,.aG b 0),(10,x),(11,I N),(12,I p.length)] h=some (.normal,[(3,.aG b 0),(10,x),(11,I N),(12,I (p.length+1))],h')∧Bk h0 h' b C' (p++[(n:Int)])∧∀i,(i<16∨i=48)→C' i=C i:=by
 obtain⟨a,ha1,ha2⟩:=hel
 have hlow:∀id c,h0.get id=some c→h.get id=some c:=fun id c q=>by rw[bk.low id (h0.lt id c q)];exact q
 have hld:=ha2 h hlow
 have hx:dC (I n) 16=some n:=lJ hn
 have g1:(oV 49 C)[16+n]?=some (I (Au p n)):=by rw[gX (by omega),bk.Qs n hn]
 have hcl:=B8 p n
 have hw:IntKind.wrap .i64 ((Au p n:Int)+1)=Au p n+1:=vC (by omega) (by omega)
 have hw2:IntKind.wrap .i64 ((p.length:Int)+1)=p.length+1:=vC (by omega) (by omega)
 have hfb:h.floor≤b:=by rw[bk.fl];exact bk.fb
 have hs1:(oV 49 C).set (16+n) (I (Au p n+1))=oV 49 (vT C (16+n) (I (Au p n+1))):=vB (by omega) _
 obtain⟨C1,eC1⟩:∃D,D=vT C (16+n) (I (Au p n+1)):=⟨_,rfl⟩
 rw[←eC1]at hs1
 obtain⟨h1,eh1⟩:∃g,g=(h.set b (oV 49 C1)).alloc [I p.length]:=⟨_,rfl⟩
 have hbn:b<h.next:=h.lt _ _ bk.get
 have hb1:h1.get b=some (oV 49 C1):=by
  rw[eh1,H.aZ,H.kg,if_neg (by omega),H.dY,if_pos rfl,bk.get];rfl
 have hC1:C1 (32+n)=C (32+n):=by rw[eC1,vT,if_neg (by omega)]
 have hlo1:∀i,i≠b→i≠h.next→h1.get i=h.get i:=fun i q1 q2=>by
  rw[eh1,H.aZ,H.kg,if_neg q2,H.dY,if_neg q1]
 have hfl1:h1.floor=h.floor:=by rw[eh1];simp
 have hnx1:h1.next=h.next+1:=by rw[eh1];simp
 have ho1:∀m,m<16→oU h1 (C (32+m)) (ints (syms p m)):=fun m hm=>
  (bk.own m hm).mono hfl1 fun i hi=>hlo1 i (fun e=>bk.nb m hm (e ▸ hi)) (by have:=(bk.own m hm).lt hi;omega)
 have hsl:=Ck p n
 have hnxf:=bk.nx
 obtain⟨v',h2,q1,q2,q3,q4,q5,q6⟩:=(ho1 n hn).app (by omega) (z:=8) (I p.length) rfl (by simp [roomy];omega)
 have g2:(oV 49 C1)[32+n]?=some (C (32+n)):=by rw[gX (by omega),hC1]
 have hb2:h2.get b=some (oV 49 C1):=by rw[q5 b (bk.nb n hn) (by omega)];exact hb1
 have hs2:(oV 49 C1).set (32+n) v'=oV 49 (vT C1 (32+n) v'):=vB (by omega) _
 have hfl2:h2.floor≤b:=by have:=bk.fb;have:=bk.fl;omega
 have hv':v'.cells=[v']∧v'.sc=true:=by
  rcases q2 with ⟨rfl,_⟩|⟨id,rfl,_⟩<;>exact⟨rfl,rfl⟩
 have b1:16+n≤48:=by omega
 have b2:32+n≤48:=by omega
 have hal:(h.set b (oV 49 C1)).get b=some (oV 49 C1):=by rw[H.dY,if_pos rfl,bk.get];rfl
 have hal2:h1.get h.next=some [I p.length]:=by rw[eh1,H.aZ,H.kg,if_pos rfl]
 refine⟨h2.set b (oV 49 (vT C1 (32+n) v')),vT C1 (32+n) v', ?_, ?_,fun i hi=>by rw[vT,if_neg (by omega),eC1,vT,if_neg (by omega)]⟩
 · simp only[I]at *
   simp [AP.f41L1,aO,au,aQ,ai,ah,bE,bg,ha1,hld,hN,hn1,hx,bk.get,g1,hw,hw2,hfb,hs1,eH,eP,mo,aV,H.aZ,cq.aR,b1,b2,hal,g2,←eh1,hal2,q1,hb2,hs2,hfl2,hv'.1,hv'.2]
 · refine⟨by rw[H.dY,if_pos rfl,hb2];rfl,by simp;rw[q3,hfl1,bk.fl],bk.fb,by simp;omega,fun id hid=> ?_,fun m hm=> ?_,fun m hm=> ?_,fun m hm=> ?_,fun m k hm hk hne i hi=> ?_⟩
   · have hfb':=bk.fb
     have hfl':=bk.fl
     rw[H.dY,if_neg (by omega),q5 id ?_ (by omega),hlo1 id (by omega) (by omega),bk.low id hid]
     intro hi
     rcases bk.own n hn with ⟨e,_⟩|⟨k,e,_,q⟩
     · rw[e]at hi;cases hi
     · rw[e]at hi;cases hi;have:=q.1;omega
   · rw[vT,if_neg (by omega),eC1,vT,Da]
     by_cases e:m=n
     · subst e;rw[if_pos rfl,if_pos ⟨by omega,rfl⟩];simp
     · rw[if_neg (by omega),bk.Qs m hm,if_neg (by omega)];simp
   · have hm32:vT C1 (32+n) v' (32+m)=if m=n then v' else C (32+m):=by
      simp only[vT]
      by_cases e:m=n
      · rw[if_pos (by omega),if_pos e]
      · rw[if_neg (by omega),if_neg e,eC1,vT,if_neg (by omega)]
     rw[hm32,Eb]
     by_cases e:m=n
     · subst e
       rw[if_pos rfl,if_pos ⟨by omega,rfl⟩,rj]
       refine q2.mono (by simp) fun i hi=> ?_
       rw[H.dY,if_neg]
       intro e2;subst e2;rw[q6]at hi;cases hi;omega
     · rw[if_neg e,if_neg (by omega),aa2]
       refine(ho1 m hm).mono (by simp;omega) fun i hi=> ?_
       have hlt:=(bk.own m hm).lt hi
       rw[H.dY,if_neg (fun (e2:i=b)=>bk.nb m hm (e2 ▸ hi)),q5 i (bk.JX m n hm hn e i hi) (by omega)]
   · have hm32:vT C1 (32+n) v' (32+m)=if m=n then v' else C (32+m):=by
      simp only[vT]
      by_cases e:m=n
      · rw[if_pos (by omega),if_pos e]
      · rw[if_neg (by omega),if_neg e,eC1,vT,if_neg (by omega)]
     rw[hm32]
     by_cases e:m=n
     · rw[if_pos e,q6];intro e2;cases e2;omega
     · rw[if_neg e];exact bk.nb m hm
   · have hm32:∀m,vT C1 (32+n) v' (32+m)=if m=n then v' else C (32+m):=fun m=>by
      simp only[vT]
      by_cases e:m=n
      · rw[if_pos (by omega),if_pos e]
      · rw[if_neg (by omega),if_neg e,eC1,vT,if_neg (by omega)]
     rw[hm32]at hi ⊢
     by_cases e:m=n
     · rw[if_pos e,q6]at hi
       cases hi
       rw[if_neg (by omega)]
       intro e2;have:=(bk.own k hk).lt e2;omega
     · rw[if_neg e]at hi
       by_cases e3:k=n
       · rw[if_pos e3,q6];intro e2;cases e2;have:=(bk.own m hm).lt hi;omega
       · rw[if_neg e3];exact bk.JX m k hm hk hne i hi
set_option maxHeartbeats 1000000 in
theorem Lx (h0 h:H) (b:Nat) (C:Nat→AV) (p:List Int) (x:AV) (N:Int) (bk:Bk h0 h b C p) (hp:p.length<100000) (hel:∃a,gZ 1 x (I p.length)=some a∧∀g:H,(∀id c,h0.get id=some c→g.get id=some c)→cf false 1 a g=some (I 0)) (hN:(p.length:Int)<N):
 aO (aU AP.A) bH AP.f41L1 [(3,.aG b 0),(10,x),(11,I N),(12,I p.length)] h=some (.normal,[(3,.aG b 0),(10,x),(11,I N),(12,I (p.length+1))],h)∧Bk h0 h b C (p++[0]):=by
 obtain⟨a,ha1,ha2⟩:=hel
 have hlow:∀id c,h0.get id=some c→h.get id=some c:=fun id c q=>by rw[bk.low id (h0.lt id c q)];exact q
 have hld:=ha2 h hlow
 have hw2:IntKind.wrap .i64 ((p.length:Int)+1)=p.length+1:=vC (by omega) (by omega)
 refine⟨?_,⟨bk.get,bk.fl,bk.fb,bk.nx,bk.low,fun n hn=> ?_,fun n hn=> ?_,bk.nb,bk.JX⟩⟩
 · simp only[I]at *
   simp [AP.f41L1,aO,au,aQ,ai,ah,ha1,hld,hN,hw2]
 · rw[bk.Qs n hn,Da,if_neg (by omega)];simp
 · have:=bk.own n hn
   rw[Eb,if_neg (by omega),aa2];exact this
theorem Gz (h0 : H) (b : Nat) (x : AV) (l : List Int) (hl : l.length < 100000) (hr : ∀ y ∈ l, 0 ≤ y ∧ y < 16) (hx : Rd h0 x (ints l)) : ∀ (m : Nat) (p q : List Int) (C : Nat → AV) (h : H), l = p ++ q → q.length = m → Bk h0 h b C p →
 ∃h' C' e',Lp AP.A [3,10,11,12] AP.f41L1 [(3,.aG b 0),(10,x),(11,I l.length),(12,I p.length)] h=some (.exit 0,e',h')∧look e' 3=.aG b 0∧Bk h0 h' b C' l∧∀i,(i<16∨i=48)→C' i=C i
 | 0, p, [], C, h, hpq, _, bk => by
   refine⟨h,C, ?_⟩
   have:l=p:=by simpa using hpq
   subst this
   refine⟨_,u6 (e':=[(3,.aG b 0),(10,x),(11,I l.length),(12,I l.length),(13,.bool false)]) ?_,rfl,bk,fun _ _=>rfl⟩
   simp [AP.f41L1,aO,au,ai,ah,I]
 | m + 1, p, y :: q, C, h, hpq, hm, bk => by
   have hmem:y∈l:=by rw[hpq];simp
   obtain⟨h1,h2⟩:=hr y hmem
   have hget:l[p.length]?=some y:=by rw[hpq];simp
   have hel:=hx.elem (uM hget)
   have hlen:p.length<l.length:=(wO.1 hget).1
   obtain⟨n,rfl⟩:=abd h1
   have next:∃h' C',aO (aU AP.A) bH AP.f41L1 [(3,.aG b 0),(10,x),(11,I l.length),(12,I p.length)] h=some (.normal,[(3,.aG b 0),(10,x),(11,I l.length),(12,I (p.length+1))],h')∧Bk h0 h' b C' (p++[(n:Int)])∧∀i,(i<16∨i=48)→C' i=C i:=by
    by_cases hn:n=0
    · subst hn
      have z:=Lx h0 h b C p x l.length bk (by omega) hel (by omega)
      exact⟨h,C,z.1,z.2,fun _ _=>rfl⟩
    · exact Lw h0 h b C p n x l.length bk (by omega) (by omega) (by omega) hel (by omega)
   obtain⟨h',C',s1,bk',hC'⟩:=next
   have ih:=Gz h0 b x l hl hr hx m (p++[(n:Int)]) q C' h' (by rw[hpq];simp) (by simpa using hm) bk'
   obtain⟨h2,C2,e2,k1,k2,k3,k4⟩:=ih
   exact⟨h2,C2,e2,u9 s1 (by simpa using k1),k2,k3,fun i hi=>by rw[k4 i hi,hC' i hi]⟩
def xX (l:List Int):Nat→Int
 |0=>0
 |n+1=>(xX l n+Au l n)* 2
def yj (l:List Int):Nat→Int
 |0=>1
 |n+1=>yj l n* 2-Au l (n+1)
theorem DR {l:List Int} (hl:l.length<100000) (n:Nat):0≤xX l n∧xX l n≤200000* 2^n-200000:=by
 induction n with
 |zero=>simp [xX]
 |succ n ih=>have:=B8 l n;simp only[xX,Int.pow_succ];omega
theorem Ii {l:List Int} (hl:l.length<100000) (n:Nat): -(200000* 2^n-100000)≤yj l n∧yj l n≤2^n:=by
 induction n with
 |zero=>simp [yj]
 |succ n ih=>have:=B8 l (n+1);simp only[yj,Int.pow_succ];omega
theorem D0 {m:Nat} (hm:m≤15):(2:Int)^m≤32768:=by
 have h:(2:Nat)^m≤2^15:=abb (by omega) hm
 have h2:((2^m:Nat):Int)≤((2^15:Nat):Int):=Int.ofNat_le.2 h
 simpa using h2
theorem Bk.put {h0 h:H} {b:Nat} {C:Nat→AV} {p:List Int} (bk:Bk h0 h b C p) {i:Nat} (hi:i<16∨i=48) (v:AV):Bk h0 (h.set b (oV 49 (vT C i v))) b (vT C i v) p:=by
 have c:∀j,16≤j→j<48→vT C i v j=C j:=fun j h1 h2=>by rw[vT,if_neg (by omega)]
 have hbn:b<h.next:=h.lt _ _ bk.get
 refine⟨by rw[H.dY,if_pos rfl,bk.get];rfl,by simp [bk.fl],bk.fb,by simp [bk.nx],fun id hid=> ?_,fun n hn=> ?_,fun n hn=> ?_,fun n hn=> ?_,fun n m hn hm hne k hk=> ?_⟩
 · have:=bk.fb
   rw[H.dY,if_neg (by omega)];exact bk.low id hid
 · rw[c _ (by omega) (by omega)];exact bk.Qs n hn
 · rw[c _ (by omega) (by omega)]
   refine(bk.own n hn).mono (by simp) fun k hk=> ?_
   rw[H.dY,if_neg];intro (e:k=b);exact bk.nb n hn (e ▸ hk)
 · rw[c _ (by omega) (by omega)];exact bk.nb n hn
 · rw[c _ (by omega) (by omega)]at hk ⊢;exact bk.JX n m hn hm hne k hk
set_option maxHeartbeats 1000000 in
theorem Jw (h0 h:H) (b:Nat) (C:Nat→AV) (l:List Int) (m:Nat) (bk:Bk h0 h b C l) (hl:l.length<100000) (hm:m<15) (hc:C 48=I (yj l m)):
 aO (aU AP.A) bH AP.f41L0 [(3,.aG b 0),(6,I (xX l m)),(7,I (m+1))] h=
  some (.normal,[(3,.aG b 0),(6,I (xX l (m+1))),(7,I (m+1+1))],(h.set b (oV 49 (vT C (m+1) (I (xX l (m+1)))))).set b (oV 49 (vT (vT C (m+1) (I (xX l (m+1)))) 48 (I (yj l (m+1)))))):=by
 have hp:=D0 (m:=m) (by omega)
 have hf:=DR hl m
 have hlf:=Ii hl m
 have c1:=B8 l m
 have c2:=B8 l (m+1)
 have w1:IntKind.wrap .i64 (m:Int)=m:=vC (by omega) (by omega)
 have w2:IntKind.wrap .i64 (xX l m+Au l m)=xX l m+Au l m:=vC (by omega) (by omega)
 have w3:IntKind.wrap .i64 ((xX l m+Au l m)* 2)=xX l (m+1):=vC (by omega) (by omega)
 have w4:IntKind.wrap .i64 (yj l m* 2)=yj l m* 2:=vC (by omega) (by omega)
 have w5:IntKind.wrap .i64 (yj l m* 2-Au l (m+1))=yj l (m+1):=vC (by omega) (by omega)
 have w6:IntKind.wrap .i64 ((m:Int)+1+1)=m+1+1:=vC (by omega) (by omega)
 have x1:dC (I m) 16=some m:=lJ (by omega)
 have x2:dC (I (m+1)) 16=some (m+1):=lJ (i:=m+1) (by omega)
 have g1:(oV 49 C)[16+m]?=some (I (Au l m)):=by rw[gX (by omega),bk.Qs m (by omega)]
 obtain⟨C1,e1⟩:∃D,D=vT C (m+1) (I (xX l (m+1))):=⟨_,rfl⟩
 have s1:(oV 49 C).set (m+1) (I (xX l (m+1)))=oV 49 C1:=by rw[e1];exact vB (by omega) _
 have g2:(oV 49 C1)[16+(m+1)]?=some (I (Au l (m+1))):=by rw[gX (by omega),e1,vT,if_neg (by omega),bk.Qs (m+1) (by omega)]
 have g3:(oV 49 C1)[48]?=some (I (yj l m)):=by rw[gX (by omega),e1,vT,if_neg (by omega),hc]
 have g4:C1 48=I (yj l m):=by rw[e1,vT,if_neg (by omega),hc]
 have s2:(oV 49 C1).set 48 (I (yj l (m+1)))=oV 49 (vT C1 48 (I (yj l (m+1)))):=vB (by omega) _
 have hfb:h.floor≤b:=by rw[bk.fl];exact bk.fb
 have ge:(h.set b (oV 49 C1)).get b=some (oV 49 C1):=by rw[H.dY,if_pos rfl,bk.get];rfl
 have b1:m+1≤48:=by omega
 have b3:m≤47:=by omega
 have b4:m≤14:=by omega
 have b2:(m:Int)+1≤15:=by omega
 rw[←e1]
 simp only[I]at *
 simp [AP.f41L0,aO,au,aQ,ai,ah,bk.get,w1,w2,w3,w4,w5,w6,x1,x2,g1,g2,g3,g4,s1,s2,hfb,ge,b1,b2,b3,b4]
theorem Fj (h0:H) (b:Nat) (l:List Int) (hl:l.length<100000):∀(k m:Nat) (C:Nat→AV) (h:H),m+k=15→Bk h0 h b C l→C 48=I (yj l m)→(∀i,i≤m→C i=I (xX l i))→
 ∃h' C' e',Lp AP.A [3,6,7] AP.f41L0 [(3,.aG b 0),(6,I (xX l m)),(7,I (m+1))] h=some (.exit 2,e',h')∧look e' 3=.aG b 0∧Bk h0 h' b C' l∧C' 48=I (yj l 15)∧∀i,i≤15→C' i=I (xX l i)
 | 0, m, C, h, hk, bk, hc, hf => by
   obtain rfl:m=15:=by omega
   refine⟨h,C,[(3,.aG b 0),(6,I (xX l 15)),(7,I 16),(45,.bool false)],u6 ?_,rfl,bk,hc,hf⟩
   have e:((15:Nat):Int)+1=16:=rfl
   rw[e]
   simp [AP.f41L0,aO,au,ai,ah,I]
 | k + 1, m, C, h, hk, bk, hc, hf => by
   have st:=Jw h0 h b C l m bk hl (by omega) hc
   have bk1:=(bk.put (i:=m+1) (.inl (by omega)) (I (xX l (m+1)))).put (i:=48) (.inr rfl) (I (yj l (m+1)))
   obtain⟨h',C',e',k1,k2⟩:=Fj h0 b l hl k (m+1) _ _ (by omega) bk1 (by simp [vT]) (fun i hi=>by
    rw[vT,if_neg (by omega),vT]
    by_cases e:i=m+1
    · rw[if_pos e,e]
    · rw[if_neg e];exact hf i (by omega))
   exact⟨h',C',e',u9 st (by simpa using k1),k2⟩
def FN (l:List AV):AV:=if l=[]then .aS else .aY false l 0 l.length 1
def zZ (l:List Int):Nat→AV:=fun i=>if i<16 then I (xX l i)else if i<32 then I (Au l (i-16))else if i<48 then FN (ints (syms l (i-32)))else I (yj l 15)
def yg (l:List Int):AV:=.aN (oV 49 (zZ l)) 0
theorem Kg {f:AV→Option AV} {C D:Nat→AV}:∀(n:Nat),(∀i,i<n→f (C i)=some (D i))→gH f (oV n C)=some (oV n D):=by
 have key:∀(l:List Nat),(∀i∈l,f (C i)=some (D i))→gH f (l.map C)=some (l.map D):=by
  intro l
  induction l with
  |nil=>intro _;rfl
  |cons i l ih=>intro h;simp [gH,h i (by simp),ih (fun j hj=>h j (by simp [hj]))]
 exact fun n h=>key _ fun i hi=>h i (List.mem_range.1 hi)
theorem zG (g:Nat→Option (List AV)) (fl n:Nat) (t:Bool):∀l:List Int,gH (snap g fl (n+1) t) (ints l)=some (ints l)
 |[]=>rfl
 | x :: l => by
   have:=zG g fl n t l
   simp only[ints,aa5,gH]at this ⊢
   rw[this];rfl
theorem IU {h:H} {v:AV} {cs:List AV} {fl n:Nat} (o:oU h v cs) (hf:fl≤h.floor) (hm:gH (snap h.get fl (n+1) false) cs=some cs):snap h.get fl (n+2) false v=some (FN cs):=by
 rcases o with ⟨rfl,rfl⟩|⟨id,rfl,hg,hfl,hne⟩
 · rfl
 · have h1:¬id<fl:=by omega
   simp only[snap,if_neg h1,hg,wP,wY,abu,aa8,List.take_length,wU,if_true,hm,FN,if_neg hne]
def C0:Nat→AV:=fun i=>if i<32 then I 0 else if i<48 then .aS else I 1
set_option maxHeartbeats 1000000 in
theorem CR (h : H) (x : AV) (l : List Int) (hl : l.length < 100000) (hr : ∀ y ∈ l, 0 ≤ y ∧ y < 16) (hx : Rd h x (ints l)) : aU AP.A 41 [x] h = some (yg l, h) := by
 have hb0:Bk h (h.eO.alloc (oV 49 C0)) h.next C0 []:=by
  refine⟨by simp [H.aZ],by simp,wU _,by simp,fun id hid=> ?_,fun n hn=> ?_,fun n hn=> ?_,fun n hn=> ?_,fun n m hn hm hne i hi=> ?_⟩
  · rw[H.aZ,if_neg (by simp;omega)];rfl
  · simp only[C0,Au,List.countP_nil];rw[if_pos (by omega)];simp
  · simp only[C0];rw[if_neg (by omega),if_pos (by omega)]
    exact .inl ⟨rfl,by unfold syms;split<;>rfl⟩
  · simp only[C0];rw[if_neg (by omega),if_pos (by omega)];exact nofun
  · simp only[C0]at hi;rw[if_neg (by omega),if_pos (by omega)]at hi;cases hi
 obtain⟨h1,D1,e1,k1,k2,bk1,k3⟩:=Gz h h.next x l hl hr hx l.length [] l C0 _ rfl rfl hb0
 obtain⟨h2,D2,e2,k4,k5,bk2,k6,k7⟩:=Fj h h.next l hl 15 0 D1 h1 rfl bk1 (by rw[k3 48 (.inr rfl)];rfl) (fun i hi=>by
  obtain rfl:i=0:=by omega
  rw[k3 0 (.inl (by omega))];rfl)
 have kx:aO (aU AP.A) bH AP.f41.body (params 0 [x]) h.eO=some (.ret,[(2,.aG h.next 0)],h2):=by
  unfold AP.f41
  refine wk (e1:=[(0,x)]) (h1:=h.eO) rfl ?_
  refine wk (e1:=[(0,x),(3,.aG h.next 0)]) (h1:=h.eO.alloc (oV 49 C0)) rfl ?_
  refine wk (e1:=[(3,.aG h.next 0)]) (h1:=h1) ?_ ?_
  · refine wk (e1:=[(3,.aG h.next 0),(10,x),(11,I l.length),(12,I 0)]) (h1:=h.eO.alloc (oV 49 C0)) ?_ ?_
    · simp [aO,au,ai,ah,hx.len,I]
    · have:=rU (k:=[3]) k1
      simp only[tE,tV,k2]at this
      exact this
  refine wk (e1:=[(3,.aG h.next 0),(6,I 0)]) (h1:=h1) rfl ?_
  refine wk (e1:=[(3,.aG h.next 0)]) (h1:=h2) ?_ ?_
  · refine wk (e1:=[(3,.aG h.next 0),(6,I 0),(7,I 1)]) (h1:=h1) rfl ?_
    have:=rU (k:=[3]) k4
    simp only[tE,tV,k5]at this
    exact this
  exact wk (e1:=[(2,.aG h.next 0)]) (h1:=h2) rfl rfl
 have hsn:snap h2.get h.next 16 true (.aG h.next 0)=some (yg l):=by
  have hm:gH (snap h2.get h.next 15 false) (oV 49 D2)=some (oV 49 (zZ l)):=by
   refine Kg 49 fun i hi=> ?_
   by_cases c1:i<16
   · rw[k7 i (by omega),zZ,if_pos c1];rfl
   by_cases c2:i<32
   · have:=bk2.Qs (i-16) (by omega)
     rw[show 16+(i-16)=i by omega]at this
     rw[this,zZ,if_neg c1,if_pos c2];rfl
   by_cases c3:i<48
   · have:=bk2.own (i-32) (by omega)
     rw[show 32+(i-32)=i by omega]at this
     rw[zZ,if_neg c1,if_neg c2,if_pos c3]
     exact IU (n:=13) this (by rw[bk2.fl];exact wU _) (zG _ _ _ _ _)
   · obtain rfl:i=48:=by omega
     rw[k6,zZ,if_neg c1,if_neg c2,if_neg c3];rfl
  simp only[snap,if_neg (Nat.lt_irrefl _),bk2.get,wP,hm,yg]
 exact vP (fn:=AP.f41) rfl rfl rfl kx rfl hsn
theorem Af (w n:Nat) (h:n<2^w):(BitVec.ofInt w (n:Int)).toNat=n:=by
 rw[BitVec.ofInt_natCast,BitVec.toNat_ofNat,Nat.mod_eq_of_lt h]
theorem xy {n:Nat} (h:n<9223372036854775808):IntKind.wrap .i64 (n:Int)=n:=vC (by omega) (by omega)
theorem wrap_u8 {n:Nat} (h:n<256):IntKind.wrap .u8 (n:Int)=n:=by
 have e:IntKind.wrap .u8 (n:Int)=(n:Int)%256:=by simp [IntKind.wrap,IntKind.bits,IntKind.signed]
 rw[e];omega
theorem N0 (n:Int):IntKind.wrap .u8 n=n%256:=by simp [IntKind.wrap,IntKind.bits,IntKind.signed]
theorem Es {a b:Nat} (ha:a<9223372036854775808) (hb:b<9223372036854775808):bits .or .i64 (a:Int) (b:Int)=((a|||b:Nat):Int):=by
 have h1:a<2^63:=by simpa using ha
 have h2:b<2^63:=by simpa using hb
 have h3:a|||b<2^63:=Nat.or_lt_two_pow h1 h2
 show IntKind.wrap .i64 (((BitVec.ofInt 64 (a:Int)|||BitVec.ofInt 64 (b:Int)).toNat:Nat):Int)=_
 rw[BitVec.toNat_or,Af 64 a (by omega),Af 64 b (by omega)]
 exact xy (by simpa using h3)
theorem F8 {a b:Nat} (ha:a<256) (hb:b<256):bits .and .u8 (a:Int) (b:Int)=((a&&&b:Nat):Int):=by
 have h3:a&&&b<2^8:=Nat.and_lt_two_pow _ (by simpa using hb)
 show IntKind.wrap .u8 (((BitVec.ofInt 8 (a:Int)&&&BitVec.ofInt 8 (b:Int)).toNat:Nat):Int)=_
 rw[BitVec.toNat_and,Af 8 a (by omega),Af 8 b (by omega)]
 exact wrap_u8 (by simpa using h3)
theorem Jx {x b i:Nat} (hx:x<2^i):x|||b* 2^i=x+b* 2^i:=by
 have:=Nat.two_pow_add_eq_or_of_lt hx b
 rw[Nat.or_comm,Nat.mul_comm b,←this,Nat.add_comm]
@[simp] theorem L8 {k j : IntKind} {a b : Int} : bC .shr (.int k a) (.int j b) = qL .shr k a b := rfl
@[simp] theorem L7 {k j : IntKind} {a b : Int} : bC .shl (.int k a) (.int j b) = qL .shl k a b := rfl
attribute [go_sem] L7 L8
theorem Nz {a s:Nat} (hs:s≤8):qL .shr .u8 (a:Int) (s:Int)=some (.int .u8 ((a/2^s:Nat):Int)):=by
 unfold qL
 rw[if_neg (by omega)]
 simp only[IntKind.bits,abq,Nat.min_eq_left hs]
 congr 2
 rw[Int.fdiv_eq_ediv_of_nonneg _ (Int.pow_nonneg (by omega))]
 simp
theorem AO {a s:Nat} (hs:s≤64) (h:a* 2^s<9223372036854775808):qL .shl .i64 (a:Int) (s:Int)=some (.int .i64 ((a* 2^s:Nat):Int)):=by
 unfold qL
 rw[if_neg (by omega)]
 simp only[IntKind.bits,abq,Nat.min_eq_left hs]
 congr 2
 rw[←xy h];simp
def yN (s:ByteArray) (p:Nat):Nat:=((s[p/8]?).map (·.toNat)).getD 0/2^(p%8)%2
theorem EN (s:ByteArray) (p:Nat):yN s p≤1:=by unfold yN;omega
def xJ (s:ByteArray) (p:Nat):Nat→Nat
 |0=>0
 |n+1=>xJ s p n+yN s (p+n)* 2^n
theorem yt (s:ByteArray) (p:Nat):∀n,xJ s p n<2^n
 |0=>by simp [xJ]
 | n + 1 => by
   have h:=yt s p n
   have b:=EN s (p+n)
   have hb:yN s (p+n)=0∨yN s (p+n)=1:=by omega
   rw[xJ,Nat.pow_succ]
   rcases hb with hb|hb<;>rw[hb]<;>omega
theorem I2 (l:List Int) (n:Nat):(syms l n).length=Au l n:=by
 have key:∀(l:List Int) (k:Nat),((l.zipIdx k).filterMap fun p=>if p.1=(n:Int)then some (p.2:Int)else none).length=l.countP (fun x=>x==(n:Int)):=by
  intro l
  induction l with
  |nil=>intro k;rfl
  | cons x l ih =>
    intro k
    rw[List.zipIdx_cons,List.filterMap_cons,List.countP_cons]
    by_cases h:x=(n:Int)
    · simp only[if_pos h,aaV,ih (k+1)];simp [h]
    · simp only[if_neg h,ih (k+1)];simp [h]
 unfold syms Au
 split
 · rfl
 · exact key l 0
def AF (l:List Int) (n:Nat) (v:Int):Option Int:=if xX l n≤v then(syms l n)[(v-xX l n).toNat]? else none
set_option maxHeartbeats 1000000 in
theorem SF (h:H) (l:List Int) (hl:l.length<100000) (n:Nat) (hn1:1≤n) (hn:n≤15) (v:Int) (hv0:0≤v) (hv:v<1000000):
 aU AP.A 72 [yg l,I n,I v] h=some (match AF l n v with|some y=>.bW [I y,.bool true]|none=>.bW [I 0,.bool false],h):=by
 have hp:=D0 hn
 have hf:=DR hl n
 have hc:=B8 l n
 have hsc:=I2 l n
 have c1:¬((n:Int)<1):=by omega
 have c2:¬(15:Int)<n:=by omega
 have a1:dC (I n) 16=some n:=lJ (by omega)
 have e1:zZ l n=I (xX l n):=by rw[zZ,if_pos (by omega)]
 have e2:zZ l (16+n)=I (Au l n):=by rw[zZ,if_neg (by omega),if_pos (by omega),show 16+n-16=n by omega]
 have e3:zZ l (32+n)=FN (ints (syms l n)):=by rw[zZ,if_neg (by omega),if_neg (by omega),if_pos (by omega),show 32+n-32=n by omega]
 have g1:(oV 49 (zZ l))[n]?=some (I (xX l n)):=by rw[gX (by omega),e1]
 have g2:(oV 49 (zZ l))[16+n]?=some (I (Au l n)):=by rw[gX (by omega),e2]
 have g3:(oV 49 (zZ l))[32+n]?=some (FN (ints (syms l n))):=by rw[gX (by omega),e3]
 have hb:yg l=.aN (oV 49 (zZ l)) 0:=rfl
 rw[hb]
 clear hb e1 e2 e3
 generalize oV 49 (zZ l)=T at g1 g2 g3 ⊢
 by_cases k1:v<xX l n
 · have:AF l n v=none:=by rw[AF,if_neg (by omega)]
   rw[this]
   refine vv (fn:=AP.f72) (e:=[(6,I 0),(7,.bool false)]) rfl rfl rfl ?_ rfl
   simp only[I]at *
   simp only[AP.f72,go_sem,aaU c1,aaU c2,a1,g1,aaW k1]
 have w1:IntKind.wrap .i64 (v-xX l n)=v-xX l n:=vC (by omega) (by omega)
 by_cases k2:(Au l n:Int)≤v-xX l n
 · have:AF l n v=none:=by rw[AF,if_pos (by omega),List.getElem?_eq_none (by omega)]
   rw[this]
   refine vv (fn:=AP.f72) (e:=[(6,I 0),(7,.bool false)]) rfl rfl rfl ?_ rfl
   simp only[I]at *
   simp only[AP.f72,go_sem,aaU c1,aaU c2,a1,g1,g2,aaU k1,w1,aaW k2]
 · obtain⟨i,hi⟩:∃i:Nat,v-xX l n=i:=abd (by omega)
   have hil:i<(syms l n).length:=by omega
   obtain⟨y,hy⟩:∃y,(syms l n)[i]?=some y:=⟨_,abe hil⟩
   have:AF l n v=some y:=by rw[AF,if_pos (by omega),hi,abq,hy]
   rw[this]
   have hne:ints (syms l n)≠[]:=by intro e;have:=abt List.length e;simp at this;simp [this]at hil
   have hs:FN (ints (syms l n))=.aY false (ints (syms l n)) 0 (ints (syms l n)).length 1:=by rw[FN,if_neg hne]
   rw[hs]at g3
   have a2:gZ 1 (.aY false (ints (syms l n)) 0 (ints (syms l n)).length 1) (I i)=some (.aN (ints (syms l n)) i):=by
    simp [gZ,lJ (show i<(syms l n).length from hil)]
   have g4:=uM hy
   rw[hi]at w1 k2
   refine vv (fn:=AP.f72) (e:=[(6,I y),(7,.bool true)]) rfl rfl rfl ?_ rfl
   simp only[I]at *
   simp only[AP.f72,go_sem,aaU c1,aaU c2,a1,g1,g2,aaU k1,hi,w1,aaU k2,g3,a2,g4]
attribute [local congr] vg
theorem zN (a b:Nat):Int.tdiv (a:Int) (b:Int)=((a/b:Nat):Int):=by simp
theorem BD (a b:Nat):Int.tmod (a:Int) (b:Int)=((a%b:Nat):Int):=by rw[Int.tmod_eq_emod_of_nonneg (by omega)];simp
theorem JK {s:ByteArray} {i:Nat} (h:i<s.size):∃b:UInt8,s[i]?=some b:=⟨s[i],by simp [h]⟩
set_option maxHeartbeats 1000000 in
theorem MO (h:H) (r:Nat) (s:ByteArray) (p x i n:Nat) (hg:h.get r=some [.str s,I p]) (hf:h.floor≤r) (hp:p<8* s.size) (hs:s.size<1125899906842624) (hx:x<2^i) (hi:i<n) (hn:n≤16):
 aO (aU AP.A) bH AP.f58L0 [(0,.aG r 0),(6,I x),(32,I n),(33,I i)] h=some (.normal,[(0,.aG r 0),(6,I (x+yN s p* 2^i:Nat)),(32,I n),(33,I (i+1:Nat))],h.set r [.str s,I (p+1:Nat)]):=by
 obtain⟨b,hb⟩:=JK (s:=s) (i:=p/8) (by omega)
 have hb8:b.toNat<256:=b.toNat_lt
 have hbit:yN s p=b.toNat/2^(p%8)%2:=by simp [yN,hb]
 have t1:Int.tdiv (p:Int) 8=((p/8:Nat):Int):=zN p 8
 have t2:Int.tmod (p:Int) 8=((p%8:Nat):Int):=BD p 8
 have w1:IntKind.wrap .i64 ((p/8:Nat):Int)=((p/8:Nat):Int):=xy (by omega)
 have a1:dC (I (p/8:Nat)) s.size=some (p/8):=lJ (by omega)
 have s1:qL .shr .u8 (b.toNat:Int) ((p%8:Nat):Int)=some (.int .u8 ((b.toNat/2^(p%8):Nat):Int)):=Nz (by omega)
 have hlt:b.toNat/2^(p%8)<256:=Nat.lt_of_le_of_lt (Nat.div_le_self _ _) hb8
 have n1:bits .and .u8 ((b.toNat/2^(p%8):Nat):Int) 1=((yN s p:Nat):Int):=by
  have:=F8 (b:=1) hlt (by omega)
  rw[Nat.and_one_is_mod]at this
  rw[hbit];exact this
 have hbl:=EN s p
 have w2:IntKind.wrap .i64 ((yN s p:Nat):Int)=((yN s p:Nat):Int):=xy (by omega)
 have hpow:(2:Nat)^i≤2^16:=abb (by omega) (by omega)
 have hmul:yN s p* 2^i≤2^i:=by
  have:=wW (2^i) hbl;simpa using this
 have s2:qL .shl .i64 ((yN s p:Nat):Int) (i:Int)=some (.int .i64 ((yN s p* 2^i:Nat):Int)):=AO (by omega) (by omega)
 have o1:bits .or .i64 (x:Int) ((yN s p* 2^i:Nat):Int)=((x+yN s p* 2^i:Nat):Int):=by
  rw[Es (by omega) (by omega),Jx hx]
 have w3:IntKind.wrap .i64 ((p:Int)+1)=((p+1:Nat):Int):=xy (n:=p+1) (by omega)
 have w4:IntKind.wrap .i64 ((i:Int)+1)=((i+1:Nat):Int):=xy (n:=i+1) (by omega)
 generalize hB:yN s p=B at *
 generalize hD:b.toNat/2^(p%8)=D at *
 generalize hE:p/8=E at *
 generalize hF:p%8=F at *
 generalize hO:x+B* 2^i=O at *
 generalize hM:B* 2^i=W at *
 simp only[I]at *
 simp [AP.f58L0,aO,au,aQ,ai,ah,hg,uc,ud,t1,t2,w1,nH,a1,hb,s1,n1,w2,s2,o1,w3,w4,hi,hf]
theorem H8 (r:Nat) (s:ByteArray) (p n:Nat) (hs:s.size<1125899906842624) (hp:p+n≤8* s.size) (hn:n≤16):∀(k i:Nat) (h:H),i+k=n→h.get r=some [.str s,I (p+i:Nat)]→h.floor≤r→
 ∃e',Lp AP.A [0,6,32,33] AP.f58L0 [(0,.aG r 0),(6,I (xJ s p i:Nat)),(32,I n),(33,I i)] h=some (.exit 1,e',h.set r [.str s,I (p+n:Nat)])∧look e' 6=I (xJ s p n:Nat)
 | 0, i, h, hk, hg, hf => by
   obtain rfl:i=n:=by omega
   refine⟨[(0,.aG r 0),(6,I (xJ s p i:Nat)),(32,I i),(33,I i),(34,.bool false)],u6 ?_,rfl⟩
   rw[H.ku hg]
   simp [AP.f58L0,aO,au,ai,ah,I]
 | k + 1, i, h, hk, hg, hf => by
   have st:=MO h r s (p+i) (xJ s p i) i n hg hf (by omega) hs (yt s p i) (by omega) hn
   obtain⟨e',k1,k2⟩:=H8 r s p n hs hp hn k (i+1) (h.set r [.str s,I (p+i+1:Nat)]) (by omega) (by rw[H.dY,if_pos rfl,hg];rfl) (by simpa using hf)
   rw[H.set_set]at k1
   exact⟨e',u9 st k1,k2⟩
theorem UW (h:H) (r:Nat) (s:ByteArray) (p n:Nat) (hg:h.get r=some [.str s,I p]) (hf:h.floor≤r) (hs:s.size<1125899906842624) (hp:p+n≤8* s.size) (hn:n≤16):
 aU AP.A 58 [.aG r 0,I n] h=some (.bW [I (xJ s p n:Nat),I 0],h.set r [.str s,I (p+n:Nat)]):=by
 obtain⟨e',k1,k2⟩:=H8 r s p n hs hp hn n 0 h (by omega) hg hf
 have l1:=rU (k:=[6]) k1
 simp only[tE,tV,k2]at l1
 have c0:¬(n:Int)<0:=by omega
 have c1:¬(16:Int)<n:=by omega
 have w1:IntKind.wrap .i64 (8* (s.size:Int))=((8* s.size:Nat):Int):=xy (n:=8* s.size) (by omega)
 have w2:IntKind.wrap .i64 (((8* s.size:Nat):Int)-p)=((8* s.size-p:Nat):Int):=by
  rw[←Int.ofNat_sub (by omega)];exact xy (by omega)
 have c2:¬((8* s.size-p:Nat):Int)<n:=by omega
 refine vv (fn:=AP.f58) (e:=[(4,I (xJ s p n:Nat)),(5,I 0)]) rfl rfl rfl ?_ rfl
 unfold AP.f58
 refine wk (e1:=[(0,.aG r 0),(1,I n)]) (h1:=h) rfl ?_
 refine wk (e1:=[(0,.aG r 0),(1,I n)]) (h1:=h) ?_ ?_
 · generalize hM:8* s.size-p=W at *
   generalize hM2:8* s.size=W2 at *
   simp only[I]at *
   simp [aO,au,aQ,ai,ah,gG,qR,hg,jQ,w1,w2,c0,c1,c2]
 refine wk (e1:=[(0,.aG r 0),(1,I n),(6,I 0)]) (h1:=h) rfl ?_
 refine wk (e1:=[(6,I (xJ s p n:Nat))]) (h1:=h.set r [.str s,I (p+n:Nat)]) ?_ ?_
 · refine wk (e1:=[(0,.aG r 0),(6,I 0),(32,I n),(33,I 0)]) (h1:=h) rfl ?_
   exact l1
 exact wk (e1:=[(4,I (xJ s p n:Nat)),(5,I 0)]) (h1:=h.set r [.str s,I (p+n:Nat)]) rfl rfl
theorem OB (h:H) (r:Nat) (s:ByteArray) (p n:Nat) (hg:h.get r=some [.str s,I p]) (hs:s.size<1125899906842624) (hp0:p≤8* s.size) (hp:8* s.size<p+n) (hn:n≤16):
 aU AP.A 58 [.aG r 0,I n] h=some (.bW [I 0,I 101],h):=by
 have c0:¬(n:Int)<0:=by omega
 have c1:¬(16:Int)<n:=by omega
 have w1:IntKind.wrap .i64 (8* (s.size:Int))=((8* s.size:Nat):Int):=xy (n:=8* s.size) (by omega)
 have w2:IntKind.wrap .i64 (((8* s.size:Nat):Int)-p)=((8* s.size-p:Nat):Int):=by
  rw[←Int.ofNat_sub (by omega)];exact xy (by omega)
 have c2:((8* s.size-p:Nat):Int)<n:=by omega
 refine vv (fn:=AP.f58) (e:=[(4,I 0),(5,I 101)]) rfl rfl rfl ?_ rfl
 unfold AP.f58
 refine wk (e1:=[(0,.aG r 0),(1,I n)]) (h1:=h) rfl ?_
 refine wo ?_
 generalize hM:8* s.size-p=W at *
 generalize hM2:8* s.size=W2 at *
 simp only[I]at *
 simp [aO,au,aQ,ai,ah,gG,qR,hg,jQ,w1,w2,c0,c1,c2]
attribute [local congr] vg
theorem yE {A:bp} {f:Nat} {fn:fY} {args:List AV} {h h2:H} {e:Env} {vs:List AV} (hf:A f=some fn) (hnp:args.length=fn.np) (hp:fn.pure=false)
 (hx:aO (aU A) bH fn.body (params 0 args) h=some (.normal,e,h2)) (hres:c9 e h2 fn.res=some vs):aU A f args h=some (dS vs,h2):=by
 refine lS hf ?_
 unfold fW
 rw[if_pos hnp]
 simp [hp,hx,fin,hres]
def Bl (l:List Nat):List AV:=l.map fun (b:Nat)=>AV.int .u8 (b:Int)
@[simp] theorem zS (l : List Nat) : (Bl l).length = l.length := by simp [Bl]
structure SS where
 at_:Nat
 out:List Nat
 e:Int
structure SC where
 s:Nat
 r:Nat
 text:ByteArray
 most:Int
structure St (c:SC) (S:SS) (h:H) (ov:AV):Prop where
 gs:h.get c.s=some [.aG c.r 0,ov,I c.most,I S.e]
 gr:h.get c.r=some [.str c.text,I S.at_]
 own:oU h ov (Bl S.out)
 sr:c.s≠c.r
 fs:h.floor≤c.s
 fr:h.floor≤c.r
 os:ov.id?≠some c.s
 or:ov.id?≠some c.r
 nx:h.floor≤h.next
 sz:c.text.size<1125899906842624
 zl:S.at_≤8* c.text.size
 ol:(S.out.length:Int)≤c.most
 ml:c.most≤900000
structure Fr (c:SC) (h:H) (ov:AV) (h':H) (ov':AV):Prop where
 fl:h'.floor=h.floor
 nx:h.next≤h'.next
 Ek:∀id,id<h.next→id≠c.s→id≠c.r→ov.id?≠some id→h'.get id=h.get id
 nb:∀i,ov'.id?=some i→ov.id?=some i∨h.next≤i
theorem Fr.refl (c:SC) (h:H) (ov:AV):Fr c h ov h ov:=⟨rfl,wU _,fun _ _ _ _ _=>rfl,fun _ q=>.inl q⟩
theorem Fr.trans {c:SC} {h1 h2 h3:H} {o1 o2 o3:AV} (a:Fr c h1 o1 h2 o2) (b:Fr c h2 o2 h3 o3):Fr c h1 o1 h3 o3:=by
 refine⟨b.fl.trans a.fl,xq a.nx b.nx,fun id h4 h5 h6 h7=> ?_,fun i hi=> ?_⟩
 · rw[b.Ek id (Nat.lt_of_lt_of_le h4 a.nx) h5 h6 (fun q=> ?_),a.Ek id h4 h5 h6 h7]
   rcases a.nb id q with q|q
   · exact h7 q
   · omega
 · rcases b.nb i hi with q|q
   · exact a.nb i q
   · exact .inr (xq a.nx q)
theorem St.Yw {c:SC} {S:SS} {h:H} {ov:AV} (st:St c S h ov) (e:Int):St c {S with e:=e} (h.set c.s [.aG c.r 0,ov,I c.most,I e]) ov∧Fr c h ov (h.set c.s [.aG c.r 0,ov,I c.most,I e]) ov:=by
 refine⟨⟨by rw[H.dY,if_pos rfl,st.gs];rfl,by rw[H.dY,if_neg (Ne.symm st.sr)];exact st.gr,st.own.mono (by simp) fun i hi=> ?_,st.sr,by simpa using st.fs,by simpa using st.fr,st.os,st.or,by simpa using st.nx,st.sz,st.zl,st.ol,st.ml⟩,⟨by simp,by simp,fun id h1 h2 h3 h4=>by rw[H.dY,if_neg h2],fun _ q=>.inl q⟩⟩
 rw[H.dY,if_neg];intro (e:i=c.s);exact st.os (e ▸ hi)
theorem St.Vt {c:SC} {S:SS} {h:H} {ov:AV} (st:St c S h ov) {p:Nat} (hp:p≤8* c.text.size):St c {S with at_:=p} (h.set c.r [.str c.text,I p]) ov∧Fr c h ov (h.set c.r [.str c.text,I p]) ov:=by
 refine⟨⟨by rw[H.dY,if_neg st.sr];exact st.gs,by rw[H.dY,if_pos rfl,st.gr];rfl,st.own.mono (by simp) fun i hi=> ?_,st.sr,by simpa using st.fs,by simpa using st.fr,st.os,st.or,by simpa using st.nx,st.sz,hp,st.ol,st.ml⟩,⟨by simp,by simp,fun id h1 h2 h3 h4=>by rw[H.dY,if_neg h3],fun _ q=>.inl q⟩⟩
 rw[H.dY,if_neg];intro (e:i=c.r);exact st.or (e ▸ hi)
def xM (k:Int) (S:SS):SS:=if S.e=0 then {S with e:=k}else S
theorem zO {c:SC} {S:SS} {h:H} {ov:AV} (st:St c S h ov) (k:Int):∃h',aU AP.A 45 [.aG c.s 0,I k] h=some (.bW [],h')∧St c (xM k S) h' ov∧Fr c h ov h' ov:=by
 have gs:=st.gs
 have fs:=st.fs
 by_cases he:S.e=0
 · refine⟨_, ?_,by rw[xM,if_pos he];exact(st.Yw k).1,(st.Yw k).2⟩
   refine yE (fn:=AP.f45) (e:=[]) rfl rfl rfl ?_ rfl
   simp only[I]at *
   simp [AP.f45,params,aO,au,ai,ah,gs,he,fs]
 · refine⟨h, ?_,by rw[xM,if_neg he];exact st,Fr.refl _ _ _⟩
   refine yE (fn:=AP.f45) (e:=[]) rfl rfl rfl ?_ rfl
   simp only[I]at *
   simp [AP.f45,params,aO,au,ai,ah,gs,he,fs]
def xK (c:SC) (n:Nat) (S:SS):Nat×SS:=if S.at_+n≤8* c.text.size then(xJ c.text S.at_ n,{S with at_:=S.at_+n})else(0,xM 700 S)
theorem MN {c:SC} {S:SS} {h:H} {ov:AV} (st:St c S h ov) {n:Nat} (hn:n≤16):∃h',aU AP.A 38 [.aG c.s 0,I n] h=some (I ((xK c n S).1:Nat),h')∧St c (xK c n S).2 h' ov∧Fr c h ov h' ov:=by
 have gs:=st.gs
 by_cases hp:S.at_+n≤8* c.text.size
 · have g:=UW h c.r c.text S.at_ n st.gr st.fr st.sz hp hn
   refine⟨_, ?_,by rw[xK,if_pos hp];exact(st.Vt hp).1,(st.Vt hp).2⟩
   rw[xK,if_pos hp]
   refine vv (fn:=AP.f38) (e:=[(4,I (xJ c.text S.at_ n:Nat))]) rfl rfl rfl ?_ rfl
   simp only[I]at *
   simp [AP.f38,params,aO,au,ai,ah,gs,bc,g]
 · have g:=OB h c.r c.text S.at_ n st.gr st.sz st.zl (by omega) hn
   obtain⟨h',k1,k2,k3⟩:=zO st 700
   refine⟨h', ?_,by rw[xK,if_neg hp];exact k2,k3⟩
   rw[xK,if_neg hp]
   refine vv (fn:=AP.f38) (e:=[(4,I 0)]) rfl rfl rfl ?_ rfl
   simp only[I]at *
   simp [AP.f38,params,aO,au,ai,ah,gs,bc,g,k1]
def FA (c:SC) (b:Nat) (S:SS):SS:=
 let T:=if c.most≤S.out.length then xM 701 S else S
 if T.e=0 then {T with out:=T.out++[b]}else T
theorem oU.len {h:H} {v:AV} {cs:List AV} (o:oU h v cs):jQ false v=some (I cs.length):=by
 rcases o with ⟨rfl,rfl⟩|⟨id,rfl,_⟩<;>rfl
theorem Nk {c : SC} {S : SS} {h : H} {ov : AV} (st : St c S h ov) {b : Nat} : ∃ h' ov', aU AP.A 59 [.aG c.s 0, .int .u8 b] h = some (.bW [], h') ∧ St c (FA c b S) h' ov' ∧ Fr c h ov h' ov' := by
 have gs0:=st.gs
 have hol:=st.ol
 have hml:=st.ml
 have ln:=st.own.len
 rw[zS]at ln
 by_cases hm:c.most≤S.out.length
 · obtain⟨h1,k1,k2,k3⟩:=zO st 701
   have he:(xM 701 S).e≠0:=by unfold xM;split<;>simp_all
   have hp:FA c b S=xM 701 S:=by unfold FA;simp only[if_pos hm,if_neg he]
   have gs1:=k2.gs
   refine⟨h1,ov, ?_,by rw[hp];exact k2,k3⟩
   refine yE (fn:=AP.f59) (e:=[]) rfl rfl rfl ?_ rfl
   simp only[I]at *
   simp [AP.f59,params,aO,au,aQ,ai,ah,gs0,ln,hm,bc,k1,gs1,he]
 by_cases he:S.e=0
 · have hp:FA c b S={S with out:=S.out++[b]}:=by unfold FA;simp only[if_neg hm,if_pos he]
   have hsl:c.s<h.next:=h.lt _ _ st.gs
   have hrl:c.r<h.next:=h.lt _ _ st.gr
   obtain⟨h1,eh1⟩:∃g,g=h.alloc [.int .u8 b]:=⟨_,rfl⟩
   have hlo1:∀i,i≠h.next→h1.get i=h.get i:=fun i q=>by rw[eh1,H.aZ,if_neg q]
   have hfl1:h1.floor=h.floor:=by rw[eh1];simp
   have hnx1:h1.next=h.next+1:=by rw[eh1];simp
   have ho1:oU h1 ov (Bl S.out):=st.own.mono hfl1 fun i hi=>hlo1 i (by have:=st.own.lt hi;omega)
   have hnxf:=st.nx
   obtain⟨v',h2,q1,q2,q3,q4,q5,q6⟩:=ho1.app (by omega) (z:=1) (.int .u8 b) rfl (by simp [roomy];omega)
   have hal2:h1.get h.next=some [.int .u8 b]:=by rw[eh1,H.aZ,if_pos rfl]
   have gs1:h1.get c.s=some [.aG c.r 0,ov,I c.most,I S.e]:=by rw[hlo1 _ (by omega)];exact st.gs
   have gs2:h2.get c.s=some [.aG c.r 0,ov,I c.most,I S.e]:=by rw[q5 _ st.os (by omega)];exact gs1
   have gr2:h2.get c.r=some [.str c.text,I S.at_]:=by rw[q5 _ st.or (by omega),hlo1 _ (by omega)];exact st.gr
   have fs2:h2.floor≤c.s:=by have:=st.fs;omega
   have hv':v'.cells=[v']∧v'.sc=true:=by
    rcases q2 with ⟨rfl,_⟩|⟨id,rfl,_⟩<;>exact⟨rfl,rfl⟩
   have hby:Bl (S.out++[b])=Bl S.out++[.int .u8 b]:=by simp [Bl]
   refine⟨h2.set c.s [.aG c.r 0,v',I c.most,I S.e],v', ?_, ?_, ?_⟩
   · refine yE (fn:=AP.f59) (e:=[]) rfl rfl rfl ?_ rfl
     simp only[I]at *
     simp [AP.f59,params,aO,au,aQ,ai,ah,bE,bg,eH,eP,mo,aV,gs0,ln,hm,he,←eh1,hal2,gs1,q1,gs2,fs2,hv'.1,hv'.2]
   · rw[hp]
     refine⟨by rw[H.dY,if_pos rfl,gs2];rfl,by rw[H.dY,if_neg (Ne.symm st.sr)];exact gr2, ?_,st.sr,by simpa using fs2,by have:=st.fr;simp;omega, ?_, ?_,by simp;omega,st.sz,st.zl,by simp;omega,st.ml⟩
     · rw[hby]
       refine q2.mono (by simp) fun i hi=> ?_
       rw[q6]at hi;cases hi
       rw[H.dY,if_neg (by omega)]
     · rw[q6];intro e;have:=wH e;omega
     · rw[q6];intro e;have:=wH e;omega
   · refine⟨by simp;omega,by simp;omega,fun id a1 a2 a3 a4=> ?_,fun i hi=> ?_⟩
     · rw[H.dY,if_neg a2,q5 id a4 (by omega),hlo1 id (by omega)]
     · rw[q6]at hi;cases hi;right;omega
 · have hp:FA c b S=S:=by unfold FA;simp only[if_neg hm,if_neg he]
   refine⟨h,ov, ?_,by rw[hp];exact st,Fr.refl _ _ _⟩
   refine yE (fn:=AP.f59) (e:=[]) rfl rfl rfl ?_ rfl
   simp only[I]at *
   simp [AP.f59,params,aO,au,aQ,ai,ah,gs0,ln,hm,he]
theorem Y8 (h:H) (s:ByteArray):aU AP.A 14 [.str s] h=some (.aG h.next 0,h.alloc [.str s,I 0]):=by
 refine vv (fn:=AP.f14) (e:=[(2,.aG h.next 0)]) rfl rfl rfl ?_ rfl
 have b:bg [(4,.agg [.str s,I 0]),(3,.str s),(0,.str s)] (.box 2 (.t 4))=some ([.str s,I 0],fun i=>.aG i 0):=rfl
 have f:eP [.str ⟨#[]⟩,.int .i64 0] [(0,1,.str s)]=some [.str s,I 0]:=rfl
 simp only[I]at *
 simp only[AP.f14,go_sem,aa5,abn,f,b]
theorem N6 (h:H) (r:Nat) (s:ByteArray) (p:Nat) (hg:h.get r=some [.str s,I p]) (hf:h.floor≤r) (hs:s.size<1125899906842624) (hp:p≤8* s.size):
 aU AP.A 16 [.aG r 0] h=some (I 0,h.set r [.str s,I ((p+7)/8* 8:Nat)]):=by
 refine vv (fn:=AP.f16) (e:=[(2,I 0)]) rfl rfl rfl ?_ rfl
 have w1:IntKind.wrap .i64 ((p:Int)+8)=((p+8:Nat):Int):=xy (n:=p+8) (by omega)
 have w2:IntKind.wrap .i64 (((p+8:Nat):Int)-1)=((p+7:Nat):Int):=by
  rw[show((p+8:Nat):Int)-1=((p+7:Nat):Int)by omega];exact xy (by omega)
 have w3:IntKind.wrap .i64 (((p+7:Nat):Int).tdiv 8)=(((p+7)/8:Nat):Int):=by
  rw[show(8:Int)=((8:Nat):Int)from rfl,zN];exact xy (by omega)
 have w4:IntKind.wrap .i64 ((((p+7)/8:Nat):Int)* 8)=(((p+7)/8* 8:Nat):Int):=by
  rw[show(((p+7)/8:Nat):Int)* 8=(((p+7)/8* 8:Nat):Int)by omega];exact xy (by omega)
 have st:∀v,vR h r 1 1 [.int .i64 v] (some [.str s,.int .i64 p])=some (h.set r [.str s,.int .i64 v]):=fun v=>wx hf (by simp) rfl
 have q:bC .quo (.int .i64 ((p+7:Nat):Int)) (.int .i64 8)=some (.int .i64 (((p+7)/8:Nat):Int)):=by rw[uc _ _ _ (by omega),w3]
 simp only[I]at *
 simp only[AP.f16,go_sem,hg,w1,w2,q,w4,st]
theorem YQ (h:H) (r:Nat) (s:ByteArray) (p:Nat) (hg:h.get r=some [.str s,I p]):aU AP.A 17 [.aG r 0] h=some (I p,h):=by
 refine vv (fn:=AP.f17) (e:=[(2,I p)]) rfl rfl rfl ?_ rfl
 simp only[I]at *
 simp only[AP.f17,go_sem,hg]
theorem Bv {c:SC} {S:SS} {h:H} {ov:AV} (st:St c S h ov) (n:Nat) (m:Int) (hm:m=n) (hn:n≤16):∃h',aU AP.A 38 [.aG c.s 0,I m] h=some (I ((xK c n S).1:Nat),h')∧St c (xK c n S).2 h' ov∧Fr c h ov h' ov:=by
 subst hm;exact MN st hn
theorem KP {c:SC} {S:SS} {h:H} {ov:AV} (st:St c S h ov) {n least:Nat} (hn:n≤16) (hl:least<100000):∃h',aU AP.A 73 [.aG c.s 0,I least,I n,I 0] h=some (I ((least+(xK c n S).1:Nat)),h')∧St c (xK c n S).2 h' ov∧Fr c h ov h' ov:=by
 obtain⟨h',k1,k2,k3⟩:=MN st hn
 refine⟨h', ?_,k2,k3⟩
 have hb:(xK c n S).1<65536:=by
  unfold xK;split
  · have:=yt c.text S.at_ n
    have:=abb (show 0<2 by omega) hn
    simp at *;omega
  · simp
 have w:IntKind.wrap .i64 ((least:Int)+((xK c n S).1:Nat))=((least+(xK c n S).1:Nat):Int):=by
  rw[show(least:Int)+((xK c n S).1:Nat)=((least+(xK c n S).1:Nat):Int)by omega];exact xy (by omega)
 refine vv (fn:=AP.f73) (e:=[(8,I ((least+(xK c n S).1:Nat)))]) rfl rfl rfl ?_ rfl
 simp only[I]at *
 simp only[AP.f73,go_sem,k1,w]
theorem GR {c:SC} {S:SS} {h:H} {ov:AV} (st:St c S h ov) (he:S.e=0):∃h' S',aU AP.A 73 [.aG c.s 0,I 0,I 0,I 600] h=some (I 0,h')∧St c S' h' ov∧Fr c h ov h' ov∧S'.e=700:=by
 obtain⟨h1,k1,k2,k3⟩:=zO st 700
 obtain⟨h',l1,l2,l3⟩:=MN k2 (n:=0) (by omega)
 have hS:xM 700 S={S with e:=700}:=by rw[xM,if_pos he]
 have hle:=st.zl
 have hg:xK c 0 (xM 700 S)=(0,xM 700 S):=by
  rw[xK,if_pos (by rw[hS];exact hle)];rfl
 rw[hg]at l1 l2
 have l1':aU AP.A 38 [.aG c.s 0,I 0] h1=some (I 0,h'):=l1
 clear l1
 refine⟨h',_, ?_,l2,k3.trans l3,by rw[hS]⟩
 have w:IntKind.wrap .i64 (0+0)=0:=vC (by omega) (by omega)
 refine vv (fn:=AP.f73) (e:=[(8,I 0)]) rfl rfl rfl ?_ rfl
 simp only[I]at *
 simp only[AP.f73,go_sem,k1,l1',w]
def Ar (t:ByteArray) (l:List Int):Nat→Nat→Nat→Nat→Option (Int×Nat)
 |0,_,_,_=>none
 |k+1,n,v,p=>if p+1≤8* t.size then(match AF l n ((v* 2+xJ t p 1:Nat):Int)with|some y=>some (y,p+1)|none=>Ar t l k (n+1) (v* 2+xJ t p 1) (p+1))else none
theorem I1 {c:SC} {S:SS} {h:H} {ov:AV} (st:St c S h ov) (l:List Int) (v n:Nat) (hs:n=16∨(n≤15∧S.e≠0)):
 ∃e',Lp AP.A [0,1,5,6] AP.f60L0 [(0,.aG c.s 0),(1,yg l),(5,I v),(6,I n)] h=some (.exit 0,e',h)∧look e' 0=.aG c.s 0:=by
 have gs:=st.gs
 refine⟨[(0,.aG c.s 0),(1,yg l),(5,I v),(6,I n),(17,.bool false)],u6 ?_,rfl⟩
 rcases hs with hn|⟨hn,he⟩
 · have c1:¬(n:Int)≤15:=by omega
   simp only[I]at *
   simp only[AP.f60L0,go_sem,aaU c1]
 · have c1:(n:Int)≤15:=by omega
   have c2:(S.e==0)=false:=vV he
   simp only[I]at *
   simp only[AP.f60L0,go_sem,aaW c1,gs,c2]
theorem I0 {c : SC} (l : List Int) (hl : l.length < 100000) : ∀ (k n v : Nat) (S : SS) (h : H) (ov : AV), n + k = 16 → 1 ≤ n → v < 2 ^ (n - 1) → St c S h ov → S.e = 0 →
 ∃ h' S', St c S' h' ov ∧ Fr c h ov h' ov ∧ match Ar c.text l k n v S.at_ with
   |some (y,p)=>S'={S with at_:=p}∧∃e',Lp AP.A [0,1,5,6] AP.f60L0 [(0,.aG c.s 0),(1,yg l),(5,I v),(6,I n)] h=some (.ret,e',h')∧look e' 4=I y
   |none=>(S'.e=0∨S'.e=700)∧∃e',Lp AP.A [0,1,5,6] AP.f60L0 [(0,.aG c.s 0),(1,yg l),(5,I v),(6,I n)] h=some (.exit 0,e',h')∧look e' 0=.aG c.s 0
 | 0, n, v, S, h, ov, hk, hn, hv, st, he => by
   obtain⟨e',q1,q2⟩:=I1 st l v n (.inl (by omega))
   exact⟨h,S,st,Fr.refl _ _ _,by simp only[Ar];exact⟨.inl he,e',q1,q2⟩⟩
 | k + 1, n, v, S, h, ov, hk, hn, hv, st, he => by
   have gs:=st.gs
   obtain⟨h1,k1,k2,k3⟩:=Bv st 1 1 rfl (by omega)
   obtain⟨x,hx⟩:∃x,x=(xK c 1 S).1:=⟨_,rfl⟩
   obtain⟨S1,hS1⟩:∃x,x=(xK c 1 S).2:=⟨_,rfl⟩
   rw[←hx]at k1;rw[←hS1]at k2
   have hp:2^n≤2^15:=abb (by omega) (by omega)
   have h2:2^(n-1+1)=2^(n-1)* 2:=Nat.pow_succ 2 (n-1)
   rw[show n-1+1=n by omega]at h2
   obtain⟨P,hP⟩:∃P:Nat,P=2^(n-1):=⟨_,rfl⟩
   rw[←hP]at h2 hv
   obtain⟨Q,hQ⟩:∃Q:Nat,Q=2^n:=⟨_,rfl⟩
   rw[←hQ]at h2 hp
   simp only[Nat.reducePow]at hp
   have hx1:x<2:=by
    rw[hx];unfold xK;split
    · have:=yt c.text S.at_ 1;simpa using this
    · simp
   have hv':v* 2+x<Q:=by omega
   have w1:IntKind.wrap .i64 ((v:Int)* 2)=((v* 2:Nat):Int):=by
    rw[show(v:Int)* 2=((v* 2:Nat):Int)by omega];exact xy (by omega)
   have w2:IntKind.wrap .i64 (((v* 2:Nat):Int)+(x:Int))=((v* 2+x:Nat):Int):=by
    rw[show((v* 2:Nat):Int)+(x:Int)=((v* 2+x:Nat):Int)by omega];exact xy (by omega)
   have w3:IntKind.wrap .i64 ((n:Int)+1)=((n+1:Nat):Int):=xy (n:=n+1) (by omega)
   have c1:(n:Int)≤15:=by omega
   have fc:=SF h1 l hl n hn (by omega) ((v* 2+x:Nat):Int) (by omega) (by omega)
   have gs1:=k2.gs
   have step:(AF l n ((v* 2+x:Nat):Int)=none∨S1.e≠0)→aO (aU AP.A) bH AP.f60L0 (ay [(0,.aG c.s 0),(1,yg l),(5,I v),(6,I n)] [0,1,5,6]) h=some (.normal,[(0,.aG c.s 0),(1,yg l),(5,I (v* 2+x:Nat)),(6,I (n+1:Nat))],h1):=by
    intro hc
    rcases hc with hc|hc
    · rw[hc]at fc
      simp only[I]at *
      simp only[AP.f60L0,go_sem,aaW c1,gs,he,k1,w1,w2,fc,w3]
    · have c2:(S1.e==0)=false:=vV hc
      cases hf:AF l n ((v* 2+x:Nat):Int)with
      | none =>
        rw[hf]at fc
        simp only[I]at *
        simp only[AP.f60L0,go_sem,aaW c1,gs,he,k1,w1,w2,fc,w3]
      | some y =>
        rw[hf]at fc
        simp only[I]at *
        simp only[AP.f60L0,go_sem,aaW c1,gs,he,k1,w1,w2,fc,w3,gs1,c2]
   by_cases hat:S.at_+1≤8* c.text.size
   · have eg:xK c 1 S=(xJ c.text S.at_ 1,{S with at_:=S.at_+1}):=by rw[xK,if_pos hat]
     rw[eg]at hx hS1
     dsimp only at hx hS1
     subst hx hS1
     rw[Ar,if_pos hat]
     cases hf:AF l n ((v* 2+xJ c.text S.at_ 1:Nat):Int)with
     | none =>
       obtain⟨h',S',q1,q2,q3⟩:=I0 l hl k (n+1) (v* 2+xJ c.text S.at_ 1) _ h1 ov (by omega) (by omega) (by rw[Nat.add_sub_cancel,←hQ];exact hv') k2 he
       refine⟨h',S',q1,k3.trans q2, ?_⟩
       dsimp only at q3 ⊢
       have sp:=step (.inl hf)
       cases hy:Ar c.text l k (n+1) (v* 2+xJ c.text S.at_ 1) (S.at_+1)with
       | none =>
         rw[hy]at q3
         obtain⟨q3,e',q4,q5⟩:=q3
         exact⟨q3,e',u9 sp q4,q5⟩
       | some y =>
         rw[hy]at q3
         obtain⟨q3,e',q4,q5⟩:=q3
         exact⟨q3,e',u9 sp q4,q5⟩
     | some y =>
       refine⟨h1,_,k2,k3,rfl,[(4,I y)],vF ?_,rfl⟩
       rw[hf]at fc
       simp only[I]at *
       simp only[AP.f60L0,go_sem,aaW c1,gs,he,k1,w1,w2,fc,w3,gs1]
   · have eg:xK c 1 S=(0,{S with e:=700}):=by rw[xK,if_neg hat,xM,if_pos he]
     rw[eg]at hx hS1
     dsimp only at hx hS1
     subst hx hS1
     rw[Ar,if_neg hat]
     have hst:n+1=16∨(n+1≤15∧(700:Int)≠0):=by omega
     obtain⟨e',q1,q2⟩:=I1 k2 l (v* 2+0) (n+1) hst
     exact⟨h1,_,k2,k3,.inr rfl,e',u9 (step (.inr (by simp))) q1,q2⟩
theorem FU {c:SC} {S:SS} {h:H} {ov:AV} (l:List Int) (hl:l.length<100000) (st:St c S h ov) (he:S.e=0):
 ∃ h' S' y, aU AP.A 60 [.aG c.s 0, yg l] h = some (I y, h') ∧ St c S' h' ov ∧ Fr c h ov h' ov ∧ match Ar c.text l 15 1 0 S.at_ with
   |some (z,p)=>S'={S with at_:=p}∧y=z
   |none=>S'.e=700∧y=256:=by
 obtain⟨h1,S1,q1,q2,q3⟩:=I0 l hl 15 1 0 S h ov (by omega) (by omega) (by simp) st he
 cases hy:Ar c.text l 15 1 0 S.at_ with
 | some yp =>
   rw[hy]at q3
   obtain⟨q3,e',q4,q5⟩:=q3
   refine⟨h1,S1,yp.1, ?_,q1,q2,q3,rfl⟩
   refine vv (fn:=AP.f60) (e:=e') (vs:=[I yp.1]) rfl rfl rfl ?_ (by simp only[AP.f60,c9,oL,q5];rfl)
   have q6:Lp AP.A [0,1,5,6] AP.f60L0 [(0,.aG c.s 0),(1,yg l),(5,I 0),(6,I 1)] h=some (.ret,e',h1):=q4
   clear q4
   simp only[I]at *
   simp only[AP.f60,go_sem,uo,q6]
 | none =>
   rw[hy]at q3
   obtain⟨q3,e',q4,q5⟩:=q3
   obtain⟨h2,r1,r2,r3⟩:=zO q1 700
   refine⟨h2,xM 700 S1,256, ?_,r2,q2.trans r3, ?_,rfl⟩
   · refine vv (fn:=AP.f60) (e:=[(4,I 256)]) rfl rfl rfl ?_ rfl
     have q6:Lp AP.A [0,1,5,6] AP.f60L0 [(0,.aG c.s 0),(1,yg l),(5,I 0),(6,I 1)] h=some (.exit 0,e',h1):=q4
     clear q4
     simp only[I]at *
     simp only[AP.f60,go_sem,uo,q6,q5,r1]
   · rcases q3 with q3|q3<;>simp [xM,q3]
def lenOf (y:Nat):Option (Nat×Nat):=
 if y≤256∨285<y then none else if y=285 then some (258,0)else if y<265 then some (y-254,0)else some (3+(4+(y-257)%4)* 2^((y-257)/4-1),(y-257)/4-1)
def zU (y:Nat):Option (Nat×Nat):=
 if 30≤y then none else if y<4 then some (1+y,0)else some (1+(2+y%2)* 2^(y/2-1),y/2-1)
theorem Ij {y a b:Nat} (h:lenOf y=some (a,b)):a≤258∧b≤5∧0<a:=by
 have key:∀y<286,∀a b,lenOf y=some (a,b)→a≤258∧b≤5∧0<a:=by
  intro y hy a b h
  have:((lenOf y).map fun p=>decide (p.1≤258∧p.2≤5∧0<p.1))=(lenOf y).map fun _=>true:=by
   clear h
   revert y
   decide+kernel
  rw[h]at this
  simpa using this
 by_cases hy:y<286
 · exact key y hy a b h
 · rw[lenOf,if_pos (by omega)]at h;cases h
theorem Gf {y a b:Nat} (h:zU y=some (a,b)):a≤24577∧b≤13∧0<a:=by
 have key:∀y<30,∀a b,zU y=some (a,b)→a≤24577∧b≤13∧0<a:=by
  intro y hy a b h
  have:((zU y).map fun p=>decide (p.1≤24577∧p.2≤13∧0<p.1))=(zU y).map fun _=>true:=by
   clear h
   revert y
   decide+kernel
  rw[h]at this
  simpa using this
 by_cases hy:y<30
 · exact key y hy a b h
 · rw[zU,if_pos (by omega)]at h;cases h
def Cn (o:Option (Nat×Nat)):AV:=match o with
 |some p=>.bW [I p.1,I p.2,I 0]
 |none=>.bW [I 0,I 0,I 600]
theorem OL (h:H) (y:Nat) (hy:y<1000000):aU AP.A 74 [I y] h=some (Cn (lenOf y),h):=by
 have d1:decide ((y:Int)≤256)=decide (y≤256):=by by_cases q:y≤256<;>simp [q]<;>omega
 have w1:IntKind.wrap .i64 ((y:Int)-256)=(y:Int)-256:=vC (by omega) (by omega)
 have w2:IntKind.wrap .i64 ((y:Int)-256-1)=(y:Int)-257:=by rw[show(y:Int)-256-1=(y:Int)-257 by omega];exact vC (by omega) (by omega)
 by_cases c1:y≤256
 · rw[lenOf,if_pos (.inl c1)]
   refine vP (fn:=AP.f74) (h2:=h.eO) (e:=[(2,I 0),(3,I 0),(4,I 600)]) rfl rfl rfl ?_ rfl rfl
   have c1':(y:Int)≤256:=by omega
   simp only[I]at *
   simp only[AP.f74,go_sem,w1,w2,aaW c1']
 have c1':¬(y:Int)≤256:=by omega
 by_cases c2:285<y
 · rw[lenOf,if_pos (.inr c2)]
   refine vP (fn:=AP.f74) (h2:=h.eO) (e:=[(2,I 0),(3,I 0),(4,I 600)]) rfl rfl rfl ?_ rfl rfl
   have c2':(285:Int)<y:=by omega
   simp only[I]at *
   simp only[AP.f74,go_sem,w1,w2,aaU c1',aaW c2']
 have c2':¬(285:Int)<y:=by omega
 rw[lenOf,if_neg (by omega)]
 by_cases c3:y=285
 · rw[if_pos c3]
   refine vP (fn:=AP.f74) (h2:=h.eO) (e:=[(2,I 258),(3,I 0),(4,I 0)]) rfl rfl rfl ?_ rfl rfl
   have c3':((y:Int)==285)=true:=vW (by omega)
   simp only[I]at *
   simp only[AP.f74,go_sem,w1,w2,aaU c1',aaU c2',c3']
 rw[if_neg c3]
 have c3':((y:Int)==285)=false:=vV (by omega)
 by_cases c4:y<265
 · rw[if_pos c4]
   refine vP (fn:=AP.f74) (h2:=h.eO) (e:=[(2,I (y-254:Nat)),(3,I 0),(4,I 0)]) rfl rfl rfl ?_ rfl rfl
   have c4':(y:Int)-257<8:=by omega
   have w3:IntKind.wrap .i64 (3+((y:Int)-257))=((y-254:Nat):Int):=by rw[show 3+((y:Int)-257)=((y-254:Nat):Int)by omega];exact xy (by omega)
   simp only[I]at *
   simp only[AP.f74,go_sem,w1,w2,aaU c1',aaU c2',c3',aaW c4',w3]
 rw[if_neg c4]
 have c4':¬(y:Int)-257<8:=by omega
 obtain⟨k,hk⟩:∃k:Nat,(y:Int)-257=k:=abd (by omega)
 have hk':y-257=k:=by omega
 rw[hk]at w2 c4'
 rw[hk']
 have q1:bC .quo (.int .i64 (k:Int)) (.int .i64 4)=some (.int .i64 ((k/4:Nat):Int)):=by
  rw[uc _ _ _ (by omega),show(4:Int)=((4:Nat):Int)from rfl,zN,xy (by omega)]
 have q2:bC .rem (.int .i64 (k:Int)) (.int .i64 4)=some (.int .i64 ((k%4:Nat):Int)):=by
  rw[ud _ _ _ (by omega),show(4:Int)=((4:Nat):Int)from rfl,BD]
 have w3:IntKind.wrap .i64 (((k/4:Nat):Int)-1)=((k/4-1:Nat):Int):=by rw[show((k/4:Nat):Int)-1=((k/4-1:Nat):Int)by omega];exact xy (by omega)
 have w4:IntKind.wrap .i64 (4+((k%4:Nat):Int))=((4+k%4:Nat):Int):=by rw[show 4+((k%4:Nat):Int)=((4+k%4:Nat):Int)by omega];exact xy (by omega)
 have hp:2^(k/4-1)≤2^5:=abb (by omega) (by omega)
 have hm:(4+k%4)* 2^(k/4-1)≤7* 2^5:=Nat.mul_le_mul (by omega) hp
 have q3:qL .shl .i64 ((4+k%4:Nat):Int) ((k/4-1:Nat):Int)=some (.int .i64 (((4+k%4)* 2^(k/4-1):Nat):Int)):=AO (by omega) (by omega)
 generalize (4+k%4)* 2^(k/4-1)=P at *
 have w5:IntKind.wrap .i64 (3+(P:Int))=((3+P:Nat):Int):=by rw[show 3+(P:Int)=((3+P:Nat):Int)by omega];exact xy (by omega)
 refine vP (fn:=AP.f74) (h2:=h.eO) (e:=[(2,I (3+P:Nat)),(3,I (k/4-1:Nat)),(4,I 0)]) rfl rfl rfl ?_ rfl rfl
 simp only[I]at *
 simp only[AP.f74,go_sem,w1,w2,aaU c1',aaU c2',c3',aaU c4',q1,q2,w3,w4,q3,w5]
theorem MC (h:H) (y:Nat) (hy:y<1000000):aU AP.A 75 [I y] h=some (Cn (zU y),h):=by
 have c0:¬(y:Int)<0:=by omega
 by_cases c1:30≤y
 · rw[zU,if_pos c1]
   refine vP (fn:=AP.f75) (h2:=h.eO) (e:=[(2,I 0),(3,I 0),(4,I 600)]) rfl rfl rfl ?_ rfl rfl
   have c1':(30:Int)≤y:=by omega
   simp only[I]at *
   simp only[AP.f75,go_sem,aaU c0,aaW c1']
 have c1':¬(30:Int)≤y:=by omega
 rw[zU,if_neg c1]
 by_cases c2:y<4
 · rw[if_pos c2]
   refine vP (fn:=AP.f75) (h2:=h.eO) (e:=[(2,I (1+y:Nat)),(3,I 0),(4,I 0)]) rfl rfl rfl ?_ rfl rfl
   have c2':(y:Int)<4:=by omega
   have w3:IntKind.wrap .i64 (1+(y:Int))=((1+y:Nat):Int):=by rw[show 1+(y:Int)=((1+y:Nat):Int)by omega];exact xy (by omega)
   simp only[I]at *
   simp only[AP.f75,go_sem,aaU c0,aaU c1',aaW c2',w3]
 rw[if_neg c2]
 have c2':¬(y:Int)<4:=by omega
 have q1:bC .quo (.int .i64 (y:Int)) (.int .i64 2)=some (.int .i64 ((y/2:Nat):Int)):=by
  rw[uc _ _ _ (by omega),show(2:Int)=((2:Nat):Int)from rfl,zN,xy (by omega)]
 have q2:bC .rem (.int .i64 (y:Int)) (.int .i64 2)=some (.int .i64 ((y%2:Nat):Int)):=by
  rw[ud _ _ _ (by omega),show(2:Int)=((2:Nat):Int)from rfl,BD]
 have w3:IntKind.wrap .i64 (((y/2:Nat):Int)-1)=((y/2-1:Nat):Int):=by rw[show((y/2:Nat):Int)-1=((y/2-1:Nat):Int)by omega];exact xy (by omega)
 have w4:IntKind.wrap .i64 (2+((y%2:Nat):Int))=((2+y%2:Nat):Int):=by rw[show 2+((y%2:Nat):Int)=((2+y%2:Nat):Int)by omega];exact xy (by omega)
 have hp:2^(y/2-1)≤2^13:=abb (by omega) (by omega)
 have hm:(2+y%2)* 2^(y/2-1)≤3* 2^13:=Nat.mul_le_mul (by omega) hp
 have q3:qL .shl .i64 ((2+y%2:Nat):Int) ((y/2-1:Nat):Int)=some (.int .i64 (((2+y%2)* 2^(y/2-1):Nat):Int)):=AO (by omega) (by omega)
 generalize (2+y%2)* 2^(y/2-1)=P at *
 have w5:IntKind.wrap .i64 (1+(P:Int))=((1+P:Nat):Int):=by rw[show 1+(P:Int)=((1+P:Nat):Int)by omega];exact xy (by omega)
 refine vP (fn:=AP.f75) (h2:=h.eO) (e:=[(2,I (1+P:Nat)),(3,I (y/2-1:Nat)),(4,I 0)]) rfl rfl rfl ?_ rfl rfl
 simp only[I]at *
 simp only[AP.f75,go_sem,aaU c0,aaU c1',aaU c2',q1,q2,w3,w4,q3,w5]
abbrev Rs:=Except Int (Nat×List Nat)
def Fin (r:Rs) (S:SS):Prop:=match r with
 | .ok q=>S=⟨q.1,q.2,0⟩
 | .error k=>S.e=k∧k≠0
theorem Hq {c:SC} {S:SS} (b:Nat) (he:S.e=0) (hm:¬c.most≤S.out.length):FA c b S=⟨S.at_,S.out++[b],0⟩:=by
 simp only[FA,if_neg hm,he,if_true]
theorem D6 {c:SC} {S:SS} (b:Nat) (he:S.e=0) (hm:c.most≤S.out.length):(FA c b S).e=701:=by
 simp [FA,hm,xM,he]
def zD (t:ByteArray) (most:Int):Nat→Nat→List Nat→Rs
 |0,p,out=>.ok (p,out)
 |n+1,p,out=>if p+8≤8* t.size then(if most≤out.length then .error 701 else zD t most n (p+8) (out++[xJ t p 8]))else .error 700
theorem Bb {c:SC} {S:SS} {h:H} {ov:AV} (st:St c S h ov) (n:Nat) (hs:n=0∨S.e≠0):
 ∃e',Lp AP.A [0,2] AP.f39L0 [(0,.aG c.s 0),(2,I n)] h=some (.exit 0,e',h):=by
 have gs:=st.gs
 refine⟨[(0,.aG c.s 0),(2,I n),(26,.bool false)],u6 ?_⟩
 by_cases hn:n=0
 · have c1:¬(0:Int)<n:=by omega
   simp only[I]at *
   simp only[AP.f39L0,go_sem,aaU c1]
 · have c1:(0:Int)<n:=by omega
   have c2:(S.e==0)=false:=vV (by omega)
   simp only[I]at *
   simp only[AP.f39L0,go_sem,aaW c1,gs,c2]
theorem FR {c : SC} : ∀ (n : Nat) (S : SS) (h : H) (ov : AV), St c S h ov → S.e = 0 → n ≤ 65535 →
 ∃e' h' ov' S',Lp AP.A [0,2] AP.f39L0 [(0,.aG c.s 0),(2,I n)] h=some (.exit 0,e',h')∧St c S' h' ov'∧Fr c h ov h' ov'∧Fin (zD c.text c.most n S.at_ S.out) S'
 | 0, S, h, ov, st, he, hn => by
   obtain⟨e',q⟩:=Bb st 0 (.inl rfl)
   exact⟨e',h,ov,S,q,st,Fr.refl _ _ _,by simp only[zD,Fin];cases S;simp_all⟩
 | n + 1, S, h, ov, st, he, hn => by
   have gs:=st.gs
   obtain⟨h1,k1,k2,k3⟩:=Bv st 8 8 rfl (by omega)
   have gs1:=k2.gs
   have c1:(0:Int)<((n+1:Nat):Int):=by omega
   have w1:IntKind.wrap .i64 (((n+1:Nat):Int)-1)=(n:Int):=by rw[show((n+1:Nat):Int)-1=(n:Int)by omega];exact xy (by omega)
   by_cases hp:S.at_+8≤8* c.text.size
   · have eg:xK c 8 S=(xJ c.text S.at_ 8,{S with at_:=S.at_+8}):=by rw[xK,if_pos hp]
     rw[eg]at k1 k2 gs1
     dsimp only at k1 k2 gs1
     obtain⟨h2,ov2,p1,p2,p3⟩:=Nk k2 (b:=xJ c.text S.at_ 8)
     have hb:=yt c.text S.at_ 8
     have w2:IntKind.wrap .u8 ((xJ c.text S.at_ 8:Nat):Int)=((xJ c.text S.at_ 8:Nat):Int):=wrap_u8 (by simpa using hb)
     have step:aO (aU AP.A) bH AP.f39L0 (ay [(0,.aG c.s 0),(2,I (n+1:Nat))] [0,2]) h=some (.normal,[(0,.aG c.s 0),(2,I n)],h2):=by
      simp only[I]at *
      simp only[AP.f39L0,go_sem,aaW c1,gs,he,k1,gs1,w2,p1,w1]
     rw[zD,if_pos hp]
     by_cases hm:c.most≤S.out.length
     · rw[if_pos hm]
       have hl:=D6 (c:=c) (S:={S with at_:=S.at_+8}) (xJ c.text S.at_ 8) he hm
       obtain⟨e',q⟩:=Bb p2 n (.inr (by rw[hl];decide))
       exact⟨e',h2,ov2,_,u9 step q,p2,k3.trans p3,hl,by decide⟩
     · rw[if_neg hm]
       rw[Hq (S:={S with at_:=S.at_+8}) _ he hm]at p2
       obtain⟨e',h',ov',S',q1,q2,q3,q4⟩:=FR n _ h2 ov2 p2 rfl (by omega)
       exact⟨e',h',ov',S',u9 step q1,q2,(k3.trans p3).trans q3,q4⟩
   · have eg:xK c 8 S=(0,{S with e:=700}):=by rw[xK,if_neg hp,xM,if_pos he]
     rw[eg]at k1 k2 gs1
     dsimp only at k1 k2 gs1
     have step:aO (aU AP.A) bH AP.f39L0 (ay [(0,.aG c.s 0),(2,I (n+1:Nat))] [0,2]) h=some (.normal,[(0,.aG c.s 0),(2,I n)],h1):=by
      simp only[I]at *
      simp only[AP.f39L0,go_sem,aaW c1,gs,he,k1,gs1,w1]
     rw[zD,if_neg hp]
     obtain⟨e',q⟩:=Bb k2 n (.inr (by simp))
     exact⟨e',h1,ov,_,u9 step q,k2,k3,rfl,by decide⟩
def AQ (t:ByteArray) (most:Int) (p0:Nat) (out:List Nat):Rs:=
 let p:=(p0+7)/8* 8
 if p+32≤8* t.size then(if xJ t p 16+xJ t (p+16) 16=65535 then zD t most (xJ t p 16) (p+32) out else .error 700)else .error 700
theorem I7 {n:Nat} (hn:n<65536):bits .xor .i64 (n:Int) 65535=((65535-n:Nat):Int):=by
 have h1:n<2^16:=by simpa using hn
 show IntKind.wrap .i64 (((BitVec.ofInt 64 (n:Int)^^^BitVec.ofInt 64 ((65535:Nat):Int)).toNat:Nat):Int)=_
 rw[BitVec.toNat_xor,Af 64 n (by omega),Af 64 65535 (by omega)]
 have h2:n^^^65535=65535-n:=by
  have:65535-n=2^16-(n+1):=by omega
  rw[this]
  apply Nat.eq_of_testBit_eq
  intro i
  rw[Nat.testBit_two_pow_sub_succ h1,Nat.testBit_xor,show 65535=2^16-1 from rfl,Nat.testBit_two_pow_sub_one]
  by_cases hi:i<16
  · simp [hi]
  · have:n.testBit i=false:=Nat.testBit_lt_two_pow (Nat.lt_of_lt_of_le h1 (abb (by omega) (by omega)))
    simp [hi,this]
 rw[h2];exact xy (by omega)
theorem St.align {c:SC} {S:SS} {h:H} {ov:AV} (st:St c S h ov):∃h',aU AP.A 16 [.aG c.r 0] h=some (I 0,h')∧St c {S with at_:=(S.at_+7)/8* 8} h' ov∧Fr c h ov h' ov:=by
 have hle:=st.zl
 have:=st.Vt (p:=(S.at_+7)/8* 8) (by omega)
 exact⟨_,N6 h c.r c.text S.at_ st.gr st.fr st.sz st.zl,this.1,this.2⟩
theorem NK {c : SC} {S : SS} {h : H} {ov : AV} (st : St c S h ov) (he : S.e = 0) :
 ∃h' ov' S',aU AP.A 39 [.aG c.s 0] h=some (.bW [],h')∧St c S' h' ov'∧Fr c h ov h' ov'∧Fin (AQ c.text c.most S.at_ S.out) S':=by
 have gs:=st.gs
 obtain⟨h1,a1,a2,a3⟩:=st.align
 obtain⟨p,hp⟩:∃p,p=(S.at_+7)/8* 8:=⟨_,rfl⟩
 rw[←hp]at a2
 have hS:AQ c.text c.most S.at_ S.out=if p+32≤8* c.text.size then(if xJ c.text p 16+xJ c.text (p+16) 16=65535 then zD c.text c.most (xJ c.text p 16) (p+32) S.out else .error 700)else .error 700:=by
  rw[hp];rfl
 rw[hS];clear hS
 obtain⟨h2,b1,b2,b3⟩:=Bv a2 16 16 rfl (by omega)
 obtain⟨h3,d1,d2,d3⟩:=Bv b2 16 16 rfl (by omega)
 obtain⟨n,hn⟩:∃n,n=(xK c 16 {S with at_:=p}).1:=⟨_,rfl⟩
 obtain⟨S2,hS2⟩:∃n,n=(xK c 16 {S with at_:=p}).2:=⟨_,rfl⟩
 obtain⟨m,hm⟩:∃n,n=(xK c 16 S2).1:=⟨_,rfl⟩
 obtain⟨S3,hS3⟩:∃n,n=(xK c 16 S2).2:=⟨_,rfl⟩
 rw[←hn]at b1;rw[←hS2]at b2 d1 d2;rw[←hm]at d1;rw[←hS3]at d2
 have hn16:n<65536:=by
  rw[hn];unfold xK;split
  · simpa using yt c.text p 16
  · simp
 have x1:=I7 hn16
 by_cases hx:m=65535-n
 · have c1:((m:Int) !=((65535-n:Nat):Int))=false:=vX (by omega)
   have fin:∀e' h',Lp AP.A [0,2] AP.f39L0 [(0,.aG c.s 0),(2,I n)] h3=some (.exit 0,e',h')→aU AP.A 39 [.aG c.s 0] h=some (.bW [],h'):=by
    intro e' h' q
    refine yE (fn:=AP.f39) (e:=[]) rfl rfl rfl ?_ rfl
    simp only[I]at *
    simp only[AP.f39,go_sem,uo,gs,a1,b1,d1,x1,c1,q]
   by_cases h32:p+32≤8* c.text.size
   · have e2:xK c 16 {S with at_:=p}=(xJ c.text p 16,{S with at_:=p+16}):=by rw[xK,if_pos (by show p+16≤_;omega)]
     rw[e2]at hn hS2;dsimp only at hn hS2;subst hS2
     have e3:xK c 16 {S with at_:=p+16}=(xJ c.text (p+16) 16,{S with at_:=p+16+16}):=by rw[xK,if_pos (by show p+16+16≤_;omega)]
     rw[e3]at hm hS3;dsimp only at hm hS3;subst hS3
     rw[if_pos h32,←hn,←hm,if_pos (by omega)]
     obtain⟨e',h',ov',S',q1,q2,q3,q4⟩:=FR n _ h3 ov d2 he (by omega)
     exact⟨h',ov',S',fin e' h' q1,q2,((a3.trans b3).trans d3).trans q3,q4⟩
   · rw [if_neg h32]
     have he3:S3.e=700:=by
      rw[hS3,hS2]
      unfold xK
      by_cases q1:p+16≤8* c.text.size
      · simp only[if_pos q1]
        rw[if_neg (by omega)];simp [xM,he]
      · simp only[if_neg q1,xM,he,if_true]
        split<;>simp
     obtain⟨e',q⟩:=Bb d2 n (.inr (by rw[he3];decide))
     exact⟨h3,ov,S3,fin e' h3 q,d2,(a3.trans b3).trans d3,he3,by decide⟩
 · have c1:((m:Int) !=((65535-n:Nat):Int))=true:=vY (by omega)
   obtain⟨h4,f1,f2,f3⟩:=zO d2 700
   have he4:(xM 700 S3).e=700:=by
    have:S3.e=0∨S3.e=700:=by
     rw[hS3,hS2]
     unfold xK
     by_cases q1:p+16≤8* c.text.size
     · simp only[if_pos q1]
       split<;>simp [xM,he]
     · simp only[if_neg q1,xM,he,if_true]
       split<;>simp
    rcases this with q|q<;>simp [xM,q]
   obtain⟨e',q⟩:=Bb f2 n (.inr (by rw[he4];decide))
   refine⟨h4,ov,xM 700 S3, ?_,f2,((a3.trans b3).trans d3).trans f3, ?_⟩
   · refine yE (fn:=AP.f39) (e:=[]) rfl rfl rfl ?_ rfl
     simp only[I]at *
     simp only[AP.f39,go_sem,uo,gs,a1,b1,d1,x1,c1,f1,q]
   · by_cases h32:p+32≤8* c.text.size
     · have e2:xK c 16 {S with at_:=p}=(xJ c.text p 16,{S with at_:=p+16}):=by rw[xK,if_pos (by show p+16≤_;omega)]
       rw[e2]at hn hS2;dsimp only at hn hS2;subst hS2
       have e3:xK c 16 {S with at_:=p+16}=(xJ c.text (p+16) 16,{S with at_:=p+16+16}):=by rw[xK,if_pos (by show p+16+16≤_;omega)]
       rw[e3]at hm hS3;dsimp only at hm hS3
       rw[if_pos h32,←hn,←hm,if_neg (by omega)]
       exact⟨he4,by decide⟩
     · rw[if_neg h32];exact⟨he4,by decide⟩
def BX (most:Int) (d:Nat):Nat→List Nat→Except Int (List Nat)
 |0,out=>.ok out
 |n+1,out=>if most≤out.length then .error 701 else BX most d n (out++[out.getD (out.length-d) 0])
def Z3 (l:List Nat):Prop:=∀b∈l,b<256
theorem Bs {c:SC} {S:SS} {h:H} {ov:AV} (st:St c S h ov) (n d:Nat) (hs:n=0∨S.e≠0):
 ∃e',Lp AP.A [0,6,8] AP.f61L0 [(0,.aG c.s 0),(6,I n),(8,I d)] h=some (.exit 0,e',h):=by
 have gs:=st.gs
 refine⟨[(0,.aG c.s 0),(6,I n),(8,I d),(53,.bool false)],u6 ?_⟩
 by_cases hn:n=0
 · have c1:¬(0:Int)<n:=by omega
   simp only[I]at *
   simp only[AP.f61L0,go_sem,aaU c1]
 · have c1:(0:Int)<n:=by omega
   have c2:(S.e==0)=false:=vV (by omega)
   simp only[I]at *
   simp only[AP.f61L0,go_sem,aaW c1,gs,c2]
theorem oU.elem {h:H} {v:AV} {cs:List AV} (o:oU h v cs) {i:Nat} {x:AV} (hx:cs[i]?=some x):∃id,v=.aH id 0 cs.length 1∧gZ 1 v (I i)=some (.aG id i)∧h.get id=some cs:=by
 have hi:i<cs.length:=(wO.1 hx).1
 rcases o with ⟨rfl,rfl⟩|⟨id,rfl,h1,_⟩
 · simp at hi
 · exact⟨id,rfl,by simp [gZ,lJ hi],h1⟩
theorem JJ {l:List Nat} {i:Nat} (h:i<l.length):(Bl l)[i]?=some (.int .u8 (l.getD i 0:Nat)):=by
 simp [Bl,xa,h,List.getD]
theorem Gd {c:SC} (d:Nat) (hd:0<d):∀(n:Nat) (S:SS) (h:H) (ov:AV),St c S h ov→S.e=0→d≤S.out.length→n≤65535→
 ∃ e' h' ov' S', Lp AP.A [0, 6, 8] AP.f61L0 [(0, .aG c.s 0), (6, I n), (8, I d)] h = some (.exit 0, e', h') ∧ St c S' h' ov' ∧ Fr c h ov h' ov' ∧ match BX c.most d n S.out with
   | .ok o=>S'={S with out:=o}
   | .error k=>S'.e=k∧k≠0
 | 0, S, h, ov, st, he, hl, hn => by
   obtain⟨e',q⟩:=Bs st 0 d (.inl rfl)
   exact⟨e',h,ov,S,q,st,Fr.refl _ _ _,by simp only[BX]⟩
 | n + 1, S, h, ov, st, he, hl, hn => by
   have gs:=st.gs
   have hol:=st.ol
   have hml:=st.ml
   have ln:=st.own.len
   rw[zS]at ln
   have c1:(0:Int)<((n+1:Nat):Int):=by omega
   have w1:IntKind.wrap .i64 (((n+1:Nat):Int)-1)=(n:Int):=by rw[show((n+1:Nat):Int)-1=(n:Int)by omega];exact xy (by omega)
   have w2:IntKind.wrap .i64 ((S.out.length:Int)-d)=((S.out.length-d:Nat):Int):=by rw[show(S.out.length:Int)-d=((S.out.length-d:Nat):Int)by omega];exact xy (by omega)
   have hb:=JJ (l:=S.out) (i:=S.out.length-d) (by omega)
   obtain⟨id,i1,i2,i3⟩:=st.own.elem hb
   obtain⟨h2,ov2,p1,p2,p3⟩:=Nk st (b:=S.out.getD (S.out.length-d) 0)
   have step:aO (aU AP.A) bH AP.f61L0 (ay [(0,.aG c.s 0),(6,I (n+1:Nat)),(8,I d)] [0,6,8]) h=some (.normal,[(0,.aG c.s 0),(6,I n),(8,I d)],h2):=by
    clear i1
    simp only[I]at *
    simp only[AP.f61L0,go_sem,aaW c1,gs,he,ln,w2,i2,i3,hb,p1,w1]
   rw[BX]
   by_cases hm:c.most≤S.out.length
   · rw[if_pos hm]
     have hl:=D6 (c:=c) (S:=S) (S.out.getD (S.out.length-d) 0) he hm
     obtain⟨e',q⟩:=Bs p2 n d (.inr (by rw[hl];decide))
     exact⟨e',h2,ov2,_,u9 step q,p2,p3,hl,by decide⟩
   · rw[if_neg hm]
     rw[Hq _ he hm]at p2
     obtain⟨e',h',ov',S',q1,q2,q3,q4⟩:=Gd d hd n _ h2 ov2 p2 rfl (by simp;omega) (by omega)
     refine⟨e',h',ov',S',u9 step q1,q2,p3.trans q3, ?_⟩
     dsimp only at q4 ⊢
     rw[he]
     exact q4
def Dd (t : ByteArray) (most : Int) (dl : List Int) (y : Nat) (p : Nat) (out : List Nat) : Rs :=
 match lenOf y with
 |none=>.error 700
 | some (least, extra) =>
   if p+extra≤8* t.size then
    match Ar t dl 15 1 0 (p+extra)with
    |none=>.error 700
    | some (z, p2) => match zU z.toNat with
      |none=>.error 700
      | some (ld, xd) =>
        if p2+xd≤8* t.size∧ld+xJ t p2 xd≤out.length then
         (match BX most (ld+xJ t p2 xd) (least+xJ t p extra) out with
         | .ok o=>.ok (p2+xd,o)
         | .error k=>.error k)
        else .error 700
   else .error 700
theorem NN {l:List Int} {n:Nat} {y:Int} (h:y∈syms l n):0≤y∧y<l.length:=by
 unfold syms at h
 split at h
 · cases h
 · rw[List.mem_filterMap]at h
   obtain⟨q,hq,h⟩:=h
   split at h
   · obtain rfl:=wH h
     have:=List.mem_zipIdx hq
     omega
   · cases h
theorem MI {l:List Int} {n:Nat} {v y:Int} (h:AF l n v=some y):0≤y∧y<l.length:=by
 unfold AF at h
 split at h
 · exact NN (wX h)
 · cases h
theorem Am {t : ByteArray} {l : List Int} : ∀ {k n v p : Nat} {y : Int} {p2 : Nat}, Ar t l k n v p = some (y, p2) → 0 ≤ y ∧ y < l.length ∧ p < p2 ∧ p2 ≤ 8 * t.size
 |0,_,_,_,_,_,h=>by cases h
 | k + 1, n, v, p, y, p2, h => by
   rw[Ar]at h
   split at h
   · split at h
     · rename_i hf
       obtain⟨rfl,rfl⟩:=wJ (wH h)
       have:=MI hf
       omega
     · have:=Am h
       omega
   · cases h
theorem Mv {c : SC} {S : SS} {h : H} {ov : AV} (dl : List Int) (hdl : dl.length < 100000) (st : St c S h ov) (he : S.e = 0) (y : Nat) (hy : y < 100000) :
 ∃h' ov' S',aU AP.A 61 [.aG c.s 0,I y,yg dl] h=some (.bW [],h')∧St c S' h' ov'∧Fr c h ov h' ov'∧Fin (Dd c.text c.most dl y S.at_ S.out) S':=by
 have lo:=OL h y (by omega)
 unfold Dd
 cases hlo:lenOf y with
 | none =>
   rw[hlo]at lo
   obtain⟨h1,S1,k1,k2,k3,k4⟩:=GR st he
   have gs1:=k2.gs
   have c1:(S1.e !=0)=true:=vY (by omega)
   refine⟨h1,ov,S1, ?_,k2,k3,k4,by decide⟩
   refine vv (fn:=AP.f61) (e:=[(0,.aG c.s 0),(2,yg dl),(6,I 0),(20,.bool true)]) (vs:=[]) rfl rfl rfl ?_ rfl
   simp only[I,Cn]at *
   simp only[AP.f61,go_sem,lo,k1,gs1,c1]
 | some le =>
   obtain⟨least,extra⟩:=le
   rw[hlo]at lo
   obtain⟨b1,b2,b3⟩:=Ij hlo
   obtain⟨h1,k1,k2,k3⟩:=KP st (n:=extra) (least:=least) (by omega) (by omega)
   dsimp only
   by_cases hp:S.at_+extra≤8* c.text.size
   · have eg : xK c extra S = (xJ c.text S.at_ extra, { S with at_ := S.at_ + extra }) := by rw [xK, if_pos hp]
     rw[eg]at k1 k2
     dsimp only at k1 k2
     rw[if_pos hp]
     have gs1:=k2.gs
     have hve:=yt c.text S.at_ extra
     have hve2:2^extra≤2^5:=abb (by omega) b2
     obtain⟨h2,S2,z,s1,s2,s3,s4⟩:=FU dl hdl k2 he
     have gs2:=s2.gs
     have c1:(S.e !=0)=false:=vX he
     dsimp only at s4 gs1
     cases hz:Ar c.text dl 15 1 0 (S.at_+extra)with
     | none =>
       rw[hz]at s4
       obtain⟨s4,s5⟩:=s4
       have c2:(S2.e !=0)=true:=vY (by omega)
       refine⟨h2,ov,S2, ?_,s2,k3.trans s3,s4,by decide⟩
       refine vv (fn:=AP.f61) (e:=[(0,.aG c.s 0),(6,I (least+xJ c.text S.at_ extra:Nat)),(7,I z),(28,.bool true)]) (vs:=[]) rfl rfl rfl ?_ rfl
       simp only[I,Cn]at *
       simp only[AP.f61,go_sem,lo,k1,gs1,c1,s1,gs2,c2]
     | some zp =>
       obtain⟨z2,p2⟩:=zp
       rw[hz]at s4
       obtain⟨s4,s5⟩:=s4
       subst s5 s4
       have zb:=Am hz
       obtain⟨zn,hzn⟩:∃n:Nat,z=n:=abd zb.1
       subst hzn
       have dob:=MC h2 zn (by omega)
       have c2:(S.e !=0)=false:=vX he
       dsimp only at gs2 ⊢
       rw[abq]
       cases hdo:zU zn with
       | none =>
         rw[hdo]at dob
         obtain⟨h3,S3,v1,v2,v3,v4⟩:=GR s2 he
         have gs3:=v2.gs
         have ln:=v2.own.len
         rw[zS]at ln
         have hn0:¬((S3.out.length:Int)<0):=by omega
         obtain⟨e',q⟩:=Bs v2 (least+xJ c.text S.at_ extra) 0 (.inr (by rw[v4];decide))
         refine⟨h3,ov,S3, ?_,v2,(k3.trans s3).trans v3,v4,by decide⟩
         refine yE (fn:=AP.f61) (e:=[]) (vs:=[]) rfl rfl rfl ?_ rfl
         have q':Lp AP.A [0,6,8] AP.f61L0 [(0,.aG c.s 0),(6,I (least+xJ c.text S.at_ extra:Nat)),(8,I 0)] h3=some (.exit 0,e',h3):=q
         clear q
         simp only[I,Cn]at *
         simp only[AP.f61,go_sem,uo,lo,k1,gs1,c1,s1,gs2,c2,dob,v1,gs3,ln,aaU hn0,q']
       | some lx =>
         obtain⟨ld,xd⟩:=lx
         rw[hdo]at dob
         obtain⟨d1,d2,d3⟩:=Gf hdo
         obtain⟨h3,v1,v2,v3⟩:=KP s2 (n:=xd) (least:=ld) (by omega) (by omega)
         obtain⟨x,hx⟩:∃x,x=(xK c xd {S with at_:=p2}).1:=⟨_,rfl⟩
         obtain⟨S3,hS3⟩:∃x,x=(xK c xd {S with at_:=p2}).2:=⟨_,rfl⟩
         rw[←hx]at v1;rw[←hS3]at v2
         have ho3:S3.out=S.out:=by rw[hS3];unfold xK;split<;>simp [xM];split<;>rfl
         have gs3:=v2.gs
         have ln:=v2.own.len
         rw[zS]at ln
         dsimp only
         by_cases hbk:S3.out.length<ld+x
         · have hbk':(S3.out.length:Int)<((ld+x:Nat):Int):=by omega
           obtain⟨h4,f1,f2,f3⟩:=zO v2 700
           have he4:(xM 700 S3).e=700:=by
            have:S3.e=0∨S3.e=700:=by
             rw[hS3];unfold xK;split
             · exact .inl he
             · right;simp [xM,he]
            rcases this with q|q<;>simp [xM,q]
           have hneg:¬(p2+xd≤8* c.text.size∧ld+xJ c.text p2 xd≤S.out.length):=by
            intro ⟨q1,q2⟩
            have:xK c xd {S with at_:=p2}=(xJ c.text p2 xd,{S with at_:=p2+xd}):=by rw[xK,if_pos q1]
            rw[this]at hx;dsimp only at hx;rw[ho3]at hbk;omega
           rw[if_neg hneg]
           obtain⟨e',q⟩:=Bs f2 (least+xJ c.text S.at_ extra) (ld+x) (.inr (by rw[he4];decide))
           refine⟨h4,ov,xM 700 S3, ?_,f2,((k3.trans s3).trans v3).trans f3,he4,by decide⟩
           refine yE (fn:=AP.f61) (e:=[]) (vs:=[]) rfl rfl rfl ?_ rfl
           simp only[I,Cn]at *
           simp only[AP.f61,go_sem,uo,lo,k1,gs1,c1,s1,gs2,c2,dob,v1,gs3,ln,aaW hbk',f1,q]
         · have hbk':¬(S3.out.length:Int)<((ld+x:Nat):Int):=by omega
           have fin:∀e' h',Lp AP.A [0,6,8] AP.f61L0 [(0,.aG c.s 0),(6,I (least+xJ c.text S.at_ extra:Nat)),(8,I (ld+x:Nat))] h3=some (.exit 0,e',h')→aU AP.A 61 [.aG c.s 0,I y,yg dl] h=some (.bW [],h'):=by
            intro e' h' q
            refine yE (fn:=AP.f61) (e:=[]) (vs:=[]) rfl rfl rfl ?_ rfl
            simp only[I,Cn]at *
            simp only[AP.f61,go_sem,uo,lo,k1,gs1,c1,s1,gs2,c2,dob,v1,gs3,ln,aaU hbk',q]
           by_cases hp2:p2+xd≤8* c.text.size
           · have:xK c xd {S with at_:=p2}=(xJ c.text p2 xd,{S with at_:=p2+xd}):=by rw[xK,if_pos hp2]
             rw[this]at hx hS3;dsimp only at hx hS3
             subst hx hS3
             dsimp only at hbk
             rw[if_pos ⟨hp2,by omega⟩]
             obtain⟨e',h',ov',S',q1,q2,q3,q4⟩:=Gd (c:=c) (ld+xJ c.text p2 xd) (by omega) (least+xJ c.text S.at_ extra) _ h3 ov v2 he (by dsimp only;omega) (by omega)
             refine⟨h',ov',S',fin e' h' q1,q2,((k3.trans s3).trans v3).trans q3, ?_⟩
             dsimp only at q4
             cases hcl:BX c.most (ld+xJ c.text p2 xd) (least+xJ c.text S.at_ extra) S.out with
             |ok o=>rw[hcl]at q4;rw[he]at q4;exact q4
             |error k=>rw[hcl]at q4;exact q4
           · rw[if_neg (fun q=>hp2 q.1)]
             have he3:S3.e=700:=by
              rw[hS3,xK,if_neg hp2];simp [xM,he]
             obtain⟨e',q⟩:=Bs v2 (least+xJ c.text S.at_ extra) (ld+x) (.inr (by rw[he3];decide))
             exact⟨h3,ov,S3,fin e' h3 q,v2,(k3.trans s3).trans v3,he3,by decide⟩
   · have eg:xK c extra S=(0,{S with e:=700}):=by rw[xK,if_neg hp,xM,if_pos he]
     rw[eg]at k1 k2
     dsimp only at k1 k2
     rw[if_neg hp]
     have gs1:=k2.gs
     refine⟨h1,ov,_, ?_,k2,k3,rfl,by decide⟩
     refine vv (fn:=AP.f61) (e:=[(0,.aG c.s 0),(2,yg dl),(6,I (least+0:Nat)),(20,.bool true)]) (vs:=[]) rfl rfl rfl ?_ rfl
     simp only[I,Cn]at *
     simp only[AP.f61,go_sem,lo,k1,gs1]
def Ag (t : ByteArray) (most : Int) (ll dl : List Int) : Nat → Nat → List Nat → Rs
 |0,_,_=>.error 700
 | k + 1, p, out => match Ar t ll 15 1 0 p with
   |none=>.error 700
   | some (y, p1) =>
     if y<256 then(if most≤out.length then .error 701 else Ag t most ll dl k p1 (out++[y.toNat]))
     else if y=256 then .ok (p1,out)
     else match Dd t most dl y.toNat p1 out with
      | .ok (p2,o)=>Ag t most ll dl k p2 o
      | .error e=>.error e
theorem HU {t : ByteArray} {most : Int} {dl : List Int} {y p : Nat} {out o : List Nat} {p2 : Nat} (h : Dd t most dl y p out = .ok (p2, o)) : p ≤ p2 ∧ p2 ≤ 8 * t.size := by
 unfold Dd at h
 split at h
 · cases h
 · split at h
   · split at h
     · cases h
     · rename_i hs
       have:=Am hs
       split at h
       · cases h
       · split at h
         · rename_i hq
           split at h
           · have:=abt (fun r:Rs=>match r with| .ok q=>q.1|_=>0) h
             dsimp only at this
             omega
           · cases h
         · cases h
   · cases h
theorem ET {c:SC} {S:SS} {h:H} {ov:AV} (st:St c S h ov) (a b:AV) (hs:S.e≠0):
 ∃e',Lp AP.A [0,1,2] AP.f40L0 [(0,.aG c.s 0),(1,a),(2,b)] h=some (.exit 0,e',h):=by
 have gs:=st.gs
 refine⟨[(0,.aG c.s 0),(1,a),(2,b),(11,.bool false)],u6 ?_⟩
 have c2:(S.e==0)=false:=vV hs
 simp only[I]at *
 simp only[AP.f40L0,go_sem,gs,c2]
theorem CK {c : SC} (ll dl : List Int) (hll : ll.length < 100000) (hdl : dl.length < 100000) : ∀ (k : Nat) (S : SS) (h : H) (ov : AV), St c S h ov → S.e = 0 → 8 * c.text.size < S.at_ + k →
 ∃e' h' ov' S',(Lp AP.A [0,1,2] AP.f40L0 [(0,.aG c.s 0),(1,yg ll),(2,yg dl)] h=some (.ret,e',h')∨Lp AP.A [0,1,2] AP.f40L0 [(0,.aG c.s 0),(1,yg ll),(2,yg dl)] h=some (.exit 0,e',h'))∧St c S' h' ov'∧Fr c h ov h' ov'∧Fin (Ag c.text c.most ll dl k S.at_ S.out) S'
 |0,S,h,ov,st,he,hk=>by have:=st.zl;omega
 | k + 1, S, h, ov, st, he, hk => by
   have gs:=st.gs
   obtain⟨h1,S1,z,s1,s2,s3,s4⟩:=FU ll hll st he
   rw[Ag]
   cases hz:Ar c.text ll 15 1 0 S.at_ with
   | none =>
     rw[hz]at s4
     obtain⟨s4,s5⟩:=s4
     subst s5
     refine⟨[(0,.aG c.s 0),(1,yg ll),(2,yg dl),(6,I 256),(26,.bool true)],h1,ov,S1,.inl (vF ?_),s2,s3,s4,by decide⟩
     simp only[I]at *
     simp only[AP.f40L0,go_sem,gs,he,s1]
   | some zp =>
     obtain⟨z2,p1⟩:=zp
     rw[hz]at s4
     obtain⟨s4,s5⟩:=s4
     subst s5 s4
     have zb:=Am hz
     obtain⟨y,hy⟩:∃n:Nat,z=n:=abd zb.1
     subst hy
     dsimp only
     by_cases c1:(y:Int)<256
     · rw[if_pos c1]
       have w1:IntKind.wrap .u8 (y:Int)=y:=wrap_u8 (by omega)
       obtain⟨h2,ov2,p1',p2',p3'⟩:=Nk s2 (b:=y)
       have step:aO (aU AP.A) bH AP.f40L0 (ay [(0,.aG c.s 0),(1,yg ll),(2,yg dl)] [0,1,2]) h=some (.normal,[(0,.aG c.s 0),(1,yg ll),(2,yg dl)],h2):=by
        simp only[I]at *
        simp only[AP.f40L0,go_sem,gs,he,s1,aaW c1,w1,p1']
       by_cases hm:c.most≤S.out.length
       · rw[if_pos hm]
         have hl:=D6 (c:=c) (S:={S with at_:=p1}) y he hm
         obtain⟨e',q⟩:=ET p2' (yg ll) (yg dl) (by rw[hl];decide)
         exact⟨e',h2,ov2,_,.inr (u9 step q),p2',s3.trans p3',hl,by decide⟩
       · rw[if_neg hm]
         rw[Hq (S:={S with at_:=p1}) _ he hm]at p2'
         obtain⟨e',h',ov',S',q1,q2,q3,q4⟩:=CK ll dl hll hdl k _ h2 ov2 p2' rfl (by dsimp only;omega)
         refine⟨e',h',ov',S', ?_,q2,(s3.trans p3').trans q3,q4⟩
         rcases q1 with q1|q1
         · exact .inl (u9 step q1)
         · exact .inr (u9 step q1)
     · rw [if_neg c1]
       by_cases c2:(y:Int)=256
       · rw[if_pos c2]
         refine⟨[(0,.aG c.s 0),(1,yg ll),(2,yg dl),(6,I y),(26,.bool true)],h1,ov,_,.inl (vF ?_),s2,s3, ?_⟩
         · have c2':=vW c2
           simp only[I]at *
           simp only[AP.f40L0,go_sem,gs,he,s1,aaU c1,c2']
         · simp only[Fin];rw[he]
       · rw[if_neg c2]
         have c2':=vV c2
         obtain⟨h2,ov2,S2,r1,r2,r3,r4⟩:=Mv dl hdl s2 he y (by omega)
         have step:aO (aU AP.A) bH AP.f40L0 (ay [(0,.aG c.s 0),(1,yg ll),(2,yg dl)] [0,1,2]) h=some (.normal,[(0,.aG c.s 0),(1,yg ll),(2,yg dl)],h2):=by
          simp only[I]at *
          simp only[AP.f40L0,go_sem,gs,he,s1,aaU c1,c2',r1]
         dsimp only at r4
         rw[abq]
         cases hc:Dd c.text c.most dl y p1 S.out with
         | error q =>
           rw[hc]at r4
           obtain⟨e',q'⟩:=ET r2 (yg ll) (yg dl) (by rw[r4.1];exact r4.2)
           exact⟨e',h2,ov2,S2,.inr (u9 step q'),r2,s3.trans r3,r4⟩
         | ok q =>
           obtain⟨p2,o⟩:=q
           rw[hc]at r4
           simp only[Fin]at r4
           subst r4
           have hge:=HU hc
           obtain⟨e',h',ov',S',q1,q2,q3,q4⟩:=CK ll dl hll hdl k _ h2 ov2 r2 rfl (by dsimp only;omega)
           refine⟨e',h',ov',S', ?_,q2,(s3.trans r3).trans q3,q4⟩
           rcases q1 with q1|q1
           · exact .inl (u9 step q1)
           · exact .inr (u9 step q1)
theorem JP {c:SC} {S:SS} {h:H} {ov:AV} (ll dl:List Int) (hll:ll.length<100000) (hdl:dl.length<100000) (st:St c S h ov) (he:S.e=0):
 ∃h' ov' S',aU AP.A 40 [.aG c.s 0,yg ll,yg dl] h=some (.bW [],h')∧St c S' h' ov'∧Fr c h ov h' ov'∧Fin (Ag c.text c.most ll dl (8* c.text.size+1) S.at_ S.out) S':=by
 obtain⟨e',h',ov',S',q1,q2,q3,q4⟩:=CK ll dl hll hdl (8* c.text.size+1) S h ov st he (by omega)
 refine⟨h',ov',S', ?_,q2,q3,q4⟩
 rcases q1 with q1|q1
 · refine vv (fn:=AP.f40) (e:=e') (vs:=[]) rfl rfl rfl ?_ rfl
   simp only[AP.f40,go_sem,uo,q1]
 · refine yE (fn:=AP.f40) (e:=[]) (vs:=[]) rfl rfl rfl ?_ rfl
   simp only[AP.f40,go_sem,uo,q1]
theorem xY (h:H):∀id c,h.get id=some c→h.eO.get id=some c:=fun _ _ q=>q
def E8 (P:AV→Bool):List AV→Nat→Int
 |[],_=> -1
 |v::r,i=>if P v then(i:Int)else E8 P r (i+1)
theorem H9 (P:AV→Bool):∀(l:List AV) (i:Nat),(0≤E8 P l i)↔l.any P=true
 |[],i=>by simp [E8]
 | v :: r, i => by
   rw[E8]
   by_cases h:P v
   · rw[if_pos h];simp [h]
   · rw[if_neg h,H9 P r];simp [h]
theorem E9 {x fv : AV} {cs : List AV} (P : AV → Bool) (hP : ∀ v ∈ cs, ∀ g : H, lQ (aU AP.A) [v] g fv = some (.bool (P v), g)) (hl : cs.length < 1000000000) (h : H) (rd : Rd h x cs) :
 ∀ (m i : Nat), m + i = cs.length → (∃ e', Lp AP.A [0, 1, 7, 8] AP.f84L0 [(0, x), (1, fv), (7, I cs.length), (8, I i)] h = some (.exit 0, e', h) ∧ E8 P (cs.drop i) i = -1) ∨
   ∃e',Lp AP.A [0,1,7,8] AP.f84L0 [(0,x),(1,fv),(7,I cs.length),(8,I i)] h=some (.ret,e',h)∧look e' 4=I (E8 P (cs.drop i) i)
 | 0, i, hm => by
   left
   refine⟨[(0,x),(1,fv),(7,I cs.length),(8,I i),(9,.bool false)],u6 ?_,by rw[List.drop_eq_nil_of_le (by omega)];rfl⟩
   have c1:¬(i:Int)<(cs.length:Int):=by omega
   simp only[I]at *
   simp only[AP.f84L0,go_sem,aaU c1]
 | m + 1, i, hm => by
   have hi:i<cs.length:=by omega
   obtain⟨v,hv⟩:∃v,cs[i]?=some v:=⟨_,abe hi⟩
   have hd:cs.drop i=v::cs.drop (i+1):=by
    rw[List.drop_eq_getElem_cons hi];rw[abe hi]at hv;rw[wH hv]
   obtain⟨p,p1,p2⟩:=rd.elem hv
   have p3:=p2 h (fun _ _ q=>q)
   have c1:(i:Int)<(cs.length:Int):=by omega
   have hPv:=hP v (wX hv) h
   have w1:IntKind.wrap .i64 ((i:Int)+1)=((i+1:Nat):Int):=xy (n:=i+1) (by omega)
   rw[hd,E8]
   cases hb:P v with
   | true =>
     right
     rw[hb]at hPv
     rw[if_pos rfl]
     refine⟨[(4,I i)],vF ?_,rfl⟩
     simp only[I]at *
     simp only[AP.f84L0,go_sem,aaW c1,p1,p3,hPv]
   | false =>
     rw[hb]at hPv
     have step:aO (aU AP.A) bH AP.f84L0 (ay [(0,x),(1,fv),(7,I cs.length),(8,I i)] [0,1,7,8]) h=some (.normal,[(0,x),(1,fv),(7,I cs.length),(8,I (i+1:Nat))],h):=by
      simp only[I]at *
      simp only[AP.f84L0,go_sem,aaW c1,p1,p3,hPv,w1]
     rw[if_neg (by decide)]
     rcases E9 P hP hl h rd m (i+1) (by omega)with ⟨e',q1,q2⟩|⟨e',q1,q2⟩
     · exact .inl ⟨e',u9 step q1,q2⟩
     · exact .inr ⟨e',u9 step q1,q2⟩
theorem OD {x fv:AV} {cs:List AV} (P:AV→Bool) (hP:∀v∈cs,∀g:H,lQ (aU AP.A) [v] g fv=some (.bool (P v),g)) (hl:cs.length<1000000000) (h:H) (rd:Rd h x cs):
 aU AP.A 84 [x,fv] h=some (I (E8 P cs 0),h):=by
 have rd':=rd.mono (xY h)
 have ln:=rd.len
 rcases E9 P hP hl h.eO rd' cs.length 0 (by omega)with ⟨e',q1,q2⟩|⟨e',q1,q2⟩
 · rw[aa8]at q2
   rw[q2]
   refine vP (fn:=AP.f84) (h2:=h.eO) (e:=[(4,I (-1))]) rfl rfl rfl ?_ rfl rfl
   have q1':Lp AP.A [0,1,7,8] AP.f84L0 [(0,x),(1,fv),(7,I cs.length),(8,I 0)] h.eO=some (.exit 0,e',h.eO):=q1
   clear q1
   simp only[I]at *
   simp only[AP.f84,go_sem,uo,ln,q1']
 · rw[aa8]at q2
   refine vP (fn:=AP.f84) (h2:=h.eO) (e:=e') (vs:=[I (E8 P cs 0)]) rfl rfl rfl ?_ (by simp only[AP.f84,c9,oL,q2];rfl) rfl
   have q1':Lp AP.A [0,1,7,8] AP.f84L0 [(0,x),(1,fv),(7,I cs.length),(8,I 0)] h.eO=some (.ret,e',h.eO):=q1
   clear q1
   simp only[I]at *
   simp only[AP.f84,go_sem,uo,ln,q1']
theorem CL {x fv:AV} {cs:List AV} (P:AV→Bool) (hP:∀v∈cs,∀g:H,lQ (aU AP.A) [v] g fv=some (.bool (P v),g)) (hl:cs.length<1000000000) (h:H) (rd:Rd h x cs):
 aU AP.A 83 [x,fv] h=some (.bool (cs.any P),h):=by
 have k1:=OD P hP hl h.eO (rd.mono (xY h))
 have ha:=H9 P cs 0
 refine vP (fn:=AP.f83) (h2:=h.eO) (e:=[(4,.bool (cs.any P))]) rfl rfl rfl ?_ rfl rfl
 cases hb:cs.any P with
 | true =>
   have c1:0≤E8 P cs 0:=ha.2 hb
   simp only[I]at *
   simp only[AP.f83,go_sem,k1,aaW c1]
 | false =>
   have c1:¬0≤E8 P cs 0:=by rw[ha,hb];decide
   simp only[I]at *
   simp only[AP.f83,go_sem,k1,aaU c1]
def CD (v:AV):Bool:=match v with| .int _ n=>decide (n<0)||decide (15<n)|_=>true
theorem VU (n:Int) (h:H):aU AP.A 82 [I n] h=some (.bool (CD (I n)),h):=by
 by_cases c1:n<0
 · refine vP (fn:=AP.f82) (h2:=h.eO) (e:=[(2,.bool true)]) rfl rfl rfl ?_ rfl ?_
   · simp only[I]at *
     simp only[AP.f82,go_sem,aaW c1]
   · simp [CD,I,c1];rfl
 · refine vP (fn:=AP.f82) (h2:=h.eO) (e:=[(2,.bool (decide (15<n)))]) rfl rfl rfl ?_ rfl ?_
   · simp only[I]at *
     simp only[AP.f82,go_sem,aaU c1]
   · simp [CD,I,c1];rfl
def Eo (l:List Int):Bool:=decide (1≤l.length)&&decide (l.length≤288)&& !((ints l).any CD)
theorem Yj (h:H) (x:AV) (l:List Int) (hl:l.length<100000) (rd:Rd h x (ints l)):aU AP.A 81 [x] h=some (.bool (Eo l),h):=by
 have hP:∀v∈ints l,∀g:H,lQ (aU AP.A) [v] g (.fn 82 [] [])=some (.bool (CD v),g):=by
  intro v hv g
  obtain⟨n,_,rfl⟩:=aa6.1 hv
  rw[po];exact VU n g
 have k1:=CL CD hP (by simp;omega) h.eO (rd.mono (xY h))
 have ln:=rd.len
 rw[rk]at ln
 refine vP (fn:=AP.f81) (h2:=h.eO) (e:=[(2,.bool (Eo l))]) rfl rfl rfl ?_ rfl rfl
 unfold Eo
 by_cases c1:1≤l.length
 · have c1':(1:Int)≤(l.length:Int):=by omega
   by_cases c2:l.length≤288
   · have c2':(l.length:Int)≤288:=by omega
     simp only[I]at *
     simp only[AP.f81,go_sem,ln,aaW c1',aaW c2',aaW c1,aaW c2,k1,aa3]
   · have c2':¬(l.length:Int)≤288:=by omega
     simp only[I]at *
     simp only[AP.f81,go_sem,ln,aaW c1',aaU c2',aaW c1,aaU c2,aa3,aa4]
 · have c1':¬(1:Int)≤(l.length:Int):=by omega
   simp only[I]at *
   simp only[AP.f81,go_sem,ln,aaU c1',aaU c1,aa4]
def yf (l:List Int):Int:=if Eo l=false then 300 else if yj l 15<0 then 301 else if 0<yj l 15 then 302 else 0
theorem GC {l:List Int} (h:Eo l=true):∀y∈l,0≤y∧y<16:=by
 intro y hy
 simp only[Eo,wT,Bool.not_eq_true',List.any_eq_false]at h
 have:=h.2 (I y) (aa6.2 ⟨y,hy,rfl⟩)
 simp [CD,I]at this
 omega
theorem G5 (h : H) (x : AV) (l : List Int) (hl : l.length < 100000) (rd : Rd h x (ints l)) : aU AP.A 65 [x] h = some (I (yf l), h) := by
 have rd':=rd.mono (xY h)
 have k1:=Yj h.eO x l hl rd'
 unfold yf
 by_cases hm:Eo l=true
 · have k2:=CR h.eO x l hl (GC hm) rd'
   have hb:yg l=.aN (oV 49 (zZ l)) 0:=rfl
   have g:(oV 49 (zZ l))[48]?=some (I (yj l 15)):=by rw[gX (by omega)];rfl
   rw[hb]at k2
   clear hb
   generalize oV 49 (zZ l)=T at k2 g
   rw[hm]at k1 ⊢
   rw[if_neg (by decide)]
   by_cases c1:yj l 15<0
   · rw[if_pos c1]
     refine vP (fn:=AP.f65) (h2:=h.eO) (e:=[(2,I 301)]) rfl rfl rfl ?_ rfl rfl
     simp only[I]at *
     simp only[AP.f65,go_sem,k1,k2,g,aaW c1]
   · rw[if_neg c1]
     by_cases c2:0<yj l 15
     · rw[if_pos c2]
       refine vP (fn:=AP.f65) (h2:=h.eO) (e:=[(2,I 302)]) rfl rfl rfl ?_ rfl rfl
       simp only[I]at *
       simp only[AP.f65,go_sem,k1,k2,g,aaU c1,aaW c2]
     · rw[if_neg c2]
       refine vP (fn:=AP.f65) (h2:=h.eO) (e:=[(2,I 0)]) rfl rfl rfl ?_ rfl rfl
       simp only[I]at *
       simp only[AP.f65,go_sem,k1,k2,g,aaU c1,aaU c2]
 · have hm':Eo l=false:=by simpa using hm
   rw[hm']at k1 ⊢
   rw[if_pos rfl]
   refine vP (fn:=AP.f65) (h2:=h.eO) (e:=[(2,I 300)]) rfl rfl rfl ?_ rfl rfl
   simp only[I]at *
   simp only[AP.f65,go_sem,k1]
def JB:List Int→Int→Int
 |[],s=>s
 |x::r,s=>JB r (s+x)
theorem Em {x:AV} {l:List Int} (hl:l.length<100000) (hr:∀y∈l,0≤y∧y<16) (h:H) (rd:Rd h x (ints l)):
 ∀(q p:List Int) (s:Int),l=p++q→0≤s→s≤16* p.length→∃e',Lp AP.A [3,6,7,8] AP.f66L0 [(3,I s),(6,x),(7,I l.length),(8,I p.length)] h=some (.exit 0,e',h)∧look e' 3=I (JB q s)
 | [], p, s, hpq, hs0, hs1 => by
   refine⟨[(3,I s),(6,x),(7,I l.length),(8,I p.length),(9,.bool false)],u6 ?_,rfl⟩
   have c1:¬(p.length:Int)<(l.length:Int):=by rw[hpq];simp
   simp only[I]at *
   simp only[AP.f66L0,go_sem,aaU c1]
 | y :: q, p, s, hpq, hs0, hs1 => by
   have hlen:l.length=p.length+(q.length+1):=by rw[hpq];simp
   have c1:(p.length:Int)<(l.length:Int):=by omega
   have hy:=hr y (by rw[hpq];simp)
   have hv:(ints l)[p.length]?=some (I y):=uM (by rw[hpq];simp)
   obtain⟨a,p1,p2⟩:=rd.elem hv
   have p3:=p2 h (fun _ _ q=>q)
   have w1:IntKind.wrap .i64 (s+y)=s+y:=vC (by omega) (by omega)
   have w2:IntKind.wrap .i64 ((p.length:Int)+1)=(((p++[y]).length:Nat):Int):=by
    rw[xu];exact xy (n:=p.length+1) (by omega)
   have step:aO (aU AP.A) bH AP.f66L0 (ay [(3,I s),(6,x),(7,I l.length),(8,I p.length)] [3,6,7,8]) h=some (.normal,[(3,I (s+y)),(6,x),(7,I l.length),(8,I (p++[y]).length)],h):=by
    simp only[I]at *
    simp only[AP.f66L0,uF,sP,sL,sN,sM,qw,uU,uT,uG,uH,uJ,uI,uC,uE,uB,uA,uv,ux,tZ,ua,rI,oW,oi,ou,mM,ur,uq,qA,qB,uW,tF,uR,tg,qk,qb,Nat.reduceEqDiff,ne_eq,not_false_eq_true,nu,nh,aaW c1,p1,p3,w1,w2]
   obtain⟨e',q1,q2⟩:=Em hl hr h rd q (p++[y]) (s+y) (by rw[hpq];simp) (by omega) (by simp;omega)
   exact⟨e',u9 step q1,q2⟩
def zh (l:List Int):Bool:=decide (JB l 0≤1)
theorem NA (h:H) (x:AV) (l:List Int) (hl:l.length<100000) (hr:∀y∈l,0≤y∧y<16) (rd:Rd h x (ints l)):aU AP.A 66 [x] h=some (.bool (zh l),h):=by
 have rd':=rd.mono (xY h)
 have ln:=rd.len
 rw[rk]at ln
 obtain⟨e',q1,q2⟩:=Em hl hr h.eO rd' l [] 0 rfl (by omega) (by simp)
 have q1':Lp AP.A [3,6,7,8] AP.f66L0 [(3,I 0),(6,x),(7,I l.length),(8,I 0)] h.eO=some (.exit 0,e',h.eO):=q1
 clear q1
 refine vP (fn:=AP.f66) (h2:=h.eO) (e:=[(2,.bool (zh l))]) rfl rfl rfl ?_ rfl rfl
 simp only[I,zh]at *
 simp only[AP.f66,go_sem,uo,ln,q1',q2]
theorem FY {n:Nat} (h:n<18446744073709551616):IntKind.wrap .u64 (n:Int)=n:=by
 have e:IntKind.wrap .u64 (n:Int)=(n:Int)%18446744073709551616:=by simp [IntKind.wrap,IntKind.bits,IntKind.signed]
 rw[e];omega
theorem EK {a:Nat} (ha:a<4294967296):bits .and .u64 (a:Int) 4294967295=(a:Int):=by
 show IntKind.wrap .u64 (((BitVec.ofInt 64 (a:Int)&&&BitVec.ofInt 64 ((4294967295:Nat):Int)).toNat:Nat):Int)=_
 rw[BitVec.toNat_and,Af 64 a (by omega),Af 64 4294967295 (by omega)]
 rw[show 4294967295=2^32-1 from rfl,Nat.and_two_pow_sub_one_eq_mod,Nat.mod_eq_of_lt (by simpa using ha)]
 exact FY (by omega)
theorem KG {a:Nat} (ha:a<4294967296):qL .shr .u64 (a:Int) 32=some (.int .u64 0):=by
 have:(a:Int).fdiv 4294967296=0:=by rw[Int.fdiv_eq_ediv_of_nonneg _ (by omega)];omega
 simp [qL,IntKind.bits,this]
theorem OR (h:H) (a b:Nat) (ha:a<4294967296) (hb:b<4294967296) (hab:a* b<4294967296):aU AP.A 78 [.int .u64 a,.int .u64 b] h=some (.bW [.int .u64 0,.int .u64 (a* b:Nat)],h):=by
 have a1:=EK ha
 have a2:=EK hb
 have s1:=KG ha
 have s2:=KG hb
 have s3:=KG hab
 have w1:IntKind.wrap .u64 ((a:Int)* b)=((a* b:Nat):Int):=by rw[show(a:Int)* b=((a* b:Nat):Int)by simp];exact FY (by omega)
 have w0:IntKind.wrap .u64 0=0:=by decide
 have z1:(0:Int)* b=0:=by omega
 have z2:(a:Int)* 0=0:=by omega
 have s0:qL .shr .u64 0 32=some (.int .u64 0):=KG (a:=0) (by omega)
 have a0:bits .and .u64 0 4294967295=0:=EK (a:=0) (by omega)
 refine vP (fn:=AP.f78) (h2:=h.eO) (e:=[(4,.int .u64 0),(5,.int .u64 (a* b:Nat))]) rfl rfl rfl ?_ rfl rfl
 simp only[AP.f78,go_sem,a1,a2,s1,s2,s3,w1,w0,z1,z2,s0,a0,Int.zero_mul,Int.add_zero]
theorem Ym (h:H) (a b:Nat) (ha:a<4294967296) (hb:b<4294967296) (hab:a* b<4294967296):aU AP.A 63 [.int .u64 a,.int .u64 b] h=some (.bW [.int .u64 0,.int .u64 (a* b:Nat)],h):=by
 have k:=OR h.eO a b ha hb hab
 refine vP (fn:=AP.f63) (h2:=h.eO) (e:=[(4,.int .u64 0),(5,.int .u64 (a* b:Nat))]) rfl rfl rfl ?_ rfl rfl
 simp only[AP.f63,go_sem,k]
theorem AJ:∀(B V A C:List AV),V.length=B.length→setFrom (A++(B++C)) A.length V=A++(V++C)
 |[],[],A,C,_=>rfl
 | b :: B, v :: V, A, C, h => by
   rw[qK]
   have h1:(A++(b::B++C)).set A.length v=(A++[v])++(B++C):=by
    rw[List.set_append_right _ _ (wU _)];simp
   rw[h1]
   have h2:=AJ B V (A++[v]) C (by simpa using h)
   rw[xu]at h2
   rw[show A.length+1=A.length+[v].length by rfl,h2];simp
 |[],v::V,A,C,h=>by simp at h
 |b::B,[],A,C,h=>by simp at h
theorem K3 (n:Nat) {v:AV} (hv:v.sc=true):AV.aE (List.replicate n v)=true:=by
 induction n with
 |zero=>rfl
 |succ n ih=>rw[List.replicate_succ,rP,hv,ih];rfl
theorem Hs (v:AV):∀n,eH n [v]=List.replicate n v
 |0=>rfl
 |n+1=>by rw[eH,Hs v n];rfl
theorem IM {k y:Nat} (h:k≤y):lD (I k) y=some k:=by
 simp [lD,pc,I];omega
theorem Jd {h:H} {id N k:Nat} {cs:List AV} (hg:h.get id=some cs) (hN:cs.length=N) (hk:k≤N):ug h 1 (.aH id 0 N 1) (some (I k)) none none=some (.aH id k (N-k) 1):=by
 simp [ug,hg,hN,aD,IM hk]
theorem GW {h:H} {id N M k:Nat} {cs:List AV} (hg:h.get id=some cs) (hN:cs.length=N) (hM:M≤N) (hk:k≤N):ug h 1 (.aH id 0 M 1) none (some (I k)) none=some (.aH id 0 k 1):=by
 have:lD (I k) N=some k:=IM hk
 simp [ug,hg,hN,aD,this,hM]
def BR (v:AV) (k N:Nat):List AV:=List.replicate k v++List.replicate (N-k) (I 0)
theorem Nn {v:AV} {k N:Nat} (h:k≤N):(BR v k N).length=N:=by simp [BR];omega
theorem II {v:AV} {k N m:Nat} (h:k+m≤N):setFrom (BR v k N) k (List.replicate m v)=BR v (k+m) N:=by
 have e:List.replicate (N-k) (I 0)=List.replicate m (I 0)++List.replicate (N-(k+m)) (I 0):=by
  rw[List.replicate_append_replicate];congr 1;omega
 have:=AJ (List.replicate m (I 0)) (List.replicate m v) (List.replicate k v) (List.replicate (N-(k+m)) (I 0)) (by simp)
 rw[abk]at this
 rw[BR,e,this,BR,←List.append_assoc,List.replicate_append_replicate]
theorem El (v : AV) (hv : v.sc = true) (N id : Nat) (hN : N < 1000000000) : ∀ (f k : Nat) (h : H), N - k ≤ f → 0 < k → k ≤ N → h.get id = some (BR v k N) → h.floor ≤ id →
 ∃e' h',Lp AP.A [7,8] AP.f43L0 [(7,.aH id 0 N 1),(8,I k)] h=some (.exit 0,e',h')∧look e' 7=.aH id 0 N 1∧h'.get id=some (BR v N N)∧h'.next=h.next
 | f, k, h, hf, hk, hkN, hg, hfl => by
   by_cases hlt:k<N
   · have c1:(k:Int)<(N:Int):=by omega
     have hlen:=Nn (v:=v) hkN
     have s1:=Jd hg hlen hkN
     have s2:=GW hg hlen (wU N) hkN
     obtain⟨m,hm⟩:∃m,m=Nat.min k (N-k):=⟨_,rfl⟩
     have hm1:0<m∧m≤k∧k+m≤N:=by
      rw[hm];have:Nat.min k (N-k)=min k (N-k):=rfl
      rw[this];omega
     have hsrc:aV h 1 (.aH id 0 k 1)=some (k,List.replicate k v):=by
      simp only[aV,if_true,hg,wP]
      rw[if_pos (by rw[hlen];omega)]
      simp [BR]
     have cp:iZ h 1 (.aH id k (N-k) 1) (.aH id 0 k 1)=some (I m,h.set id (BR v (k+m) N)):=by
      unfold iZ
      rw[hsrc,wP]
      simp only[K3 k hv,hfl,and_self,true_and,if_true,hg,wP,hlen]
      rw[if_pos (by omega),←hm,abu,List.take_replicate,Nat.min_eq_left hm1.2.1,II hm1.2.2];rfl
     have w1:IntKind.wrap .i64 ((k:Int)+m)=((k+m:Nat):Int):=by rw[show(k:Int)+m=((k+m:Nat):Int)by omega];exact xy (by omega)
     have al:jQ false (.aH id 0 N 1)=some (I N):=rfl
     have step:aO (aU AP.A) bH AP.f43L0 (ay [(7,.aH id 0 N 1),(8,I k)] [7,8]) h=some (.normal,[(7,.aH id 0 N 1),(8,I (k+m:Nat))],h.set id (BR v (k+m) N)):=by
      simp only[I]at *
      simp only[AP.f43L0,go_sem,al,aaW c1,aaY,abc,s1,s2,cp,w1]
     match f,hf with
     |0,hf=>omega
     | f + 1, hf =>
       obtain⟨e',h',q1,q2,q3,q4⟩:=El v hv N id hN f (k+m) (h.set id (BR v (k+m) N)) (by omega) (by omega) (by omega) (by rw[H.dY,if_pos rfl,hg];rfl) (by simpa using hfl)
       exact⟨e',h',u9 step q1,q2,q3,by rw[q4];simp⟩
   · have hkN':k=N:=by omega
     subst hkN'
     have c1:¬(k:Int)<(k:Int):=by omega
     have al:jQ false (.aH id 0 k 1)=some (I k):=rfl
     refine⟨[(7,.aH id 0 k 1),(8,I k),(37,.bool false)],h,u6 ?_,rfl,hg,rfl⟩
     simp only[I]at *
     simp only[AP.f43L0,go_sem,al,aaU c1]
theorem BA (h : H) (x : AV) (y : Int) (N : Nat) (hN : N < 1000000000) (rd : Rd h x [I y]) : aU AP.A 43 [x, I N] h = some (.aY false (ints (List.replicate N y)) 0 N 1, h) := by
 have rd':=rd.mono (xY h)
 have ln:=rd.len
 have mc:=Ym h.eO 1 N (by omega) (by omega) (by omega)
 rw[Nat.one_mul]at mc
 have mc':aU AP.A 63 [.int .u64 1,.int .u64 N] h.eO=some (.bW [.int .u64 0,.int .u64 N],h.eO):=mc
 clear mc
 have c0:¬(N:Int)<0:=by omega
 have w1:IntKind.wrap .u64 1=1:=by decide
 have w2:IntKind.wrap .u64 (N:Int)=N:=FY (by omega)
 have w3:IntKind.wrap .i64 (N:Int)=N:=xy (by omega)
 have c1:¬(0:Int)<0:=by omega
 have c2:¬(9223372036854775807:Int)<(N:Int):=by omega
 obtain⟨id,hid⟩:∃i,i=h.next:=⟨_,rfl⟩
 obtain⟨g1,hg1⟩:∃g,g=h.eO.alloc (List.replicate N (I 0)):=⟨_,rfl⟩
 have e1:g1.get id=some (List.replicate N (I 0)):=by rw[hg1,H.aZ,if_pos (by rw[hid];rfl)]
 have bt:bg [(29,I N),(28,.int .u64 N),(0,x),(6,.int .u64 N)] (.jI 1 8 [I 0] (.t 29) (.t 29))=some (List.replicate N (I 0),fun i=>.aH i 0 N 1):=by
  have c3:(8:Int)* N≤281474976710656:=by omega
  have c4:(N:Int)≤9223372036854775807:=by omega
  simp [bg,I,Hs,c3,c4]
 have hcp : ∃ (k : Nat) (h2 : H), iZ g1 1 (.aH id 0 N 1) x = some (I k, h2) ∧ ((k = 0 ∧ N = 0) ∨ (k = 1 ∧ 0 < N)) ∧ h2.get id = some (BR (I y) k N) ∧ h2.floor = h.next ∧ h2.next = g1.next := by
  have rd2:aV g1 1 x=some (1,[I y]):=(rd.mono (fun i c q=>by rw[hg1,H.aZ,if_neg (by have:=h.lt _ _ q;show i≠h.next;omega)];exact q)).1
  refine⟨Nat.min 1 N,g1.set id (BR (I y) (Nat.min 1 N) N), ?_, ?_,by rw[H.dY,if_pos rfl,e1];rfl,by rw[hg1];simp,by simp⟩
  · unfold iZ
    rw[rd2,wP]
    have hf:g1.floor≤id:=by rw[hg1,hid];simp
    have ha:AV.aE [I y]=true:=rfl
    simp only[ha,hf,and_self,true_and,if_true,e1,wP,abk]
    rw[if_pos (by omega),abu]
    have hz:List.replicate N (I 0)=BR (I y) 0 N:=by simp [BR]
    rw[hz]
    have ht:[I y].take (Nat.min 1 N)=List.replicate (Nat.min 1 N) (I y):=by
     cases N with
     |zero=>rfl
     | succ n => have : Nat.min 1 (n + 1) = 1 := by show min 1 (n + 1) = 1; omega
                 rw[this];rfl
    rw[ht,II (by show 0+min 1 N≤N;omega),wY];rfl
  · cases N with
    |zero=>left;exact⟨rfl,rfl⟩
    |succ n=>right;exact⟨by show min 1 (n+1)=1;omega,by omega⟩
 obtain⟨k,h2,cp1,cp2,cp3,cp4,cp5⟩:=hcp
 have lp:∃e' h3,Lp AP.A [7,8] AP.f43L0 [(7,.aH id 0 N 1),(8,I k)] h2=some (.exit 0,e',h3)∧look e' 7=.aH id 0 N 1∧h3.get id=some (BR (I y) N N):=by
  rcases cp2 with ⟨rfl,rfl⟩|⟨rfl,hN0⟩
  · refine⟨[(7,.aH id 0 0 1),(8,I 0),(37,.bool false)],h2,u6 ?_,rfl,cp3⟩
    have al:jQ false (.aH id 0 0 1)=some (I 0):=rfl
    simp only[I]at *
    simp only[AP.f43L0,go_sem,al,Int.natCast_zero]
  · obtain⟨e',h',q1,q2,q3,_⟩:=El (I y) rfl N id hN N 1 h2 (by omega) (by omega) (by omega) cp3 (by rw[cp4,hid];exact wU _)
    exact⟨e',h',q1,q2,q3⟩
 obtain⟨e',h3,q1,q2,q3⟩:=lp
 refine vP (fn:=AP.f43) (h2:=h3) (e:=[(4,.aH id 0 N 1)]) (vs:=[.aH id 0 N 1]) rfl rfl rfl ?_ rfl ?_
 · have al:jQ false x=some (I 1):=ln
   have hn:h.eO.next=id:=by rw[hid];rfl
   simp only[I]at *
   simp only[AP.f43,go_sem,al,aaU c0,w1,w2,w3,mc',aaU c1,aaU c2,bt,←hg1,hn,cp1,uo,q1,q2]
 · have hr:BR (I y) N N=ints (List.replicate N y):=by simp [BR,ints]
   show snap h3.get h.next 16 true (.aH id 0 N 1)=_
   unfold snap
   rw[if_neg (by omega),q3,wP,hr,if_pos (by simp)]
   have ht:((ints (List.replicate N y)).drop 0).take (N* 1)=ints (List.replicate N y):=by
    rw[aa8,abu,xj (by simp)]
   rw[ht,zG];rfl
theorem UY (h:H) (N:Nat) (hN0:0<N) (hN:N<1000000000):aU AP.A 76 [.aS,I N] h=some (.aH h.next 0 0 1,h.alloc (List.replicate N (I 0))):=by
 have c0:¬(N:Int)<0:=by omega
 have c1:(0:Int)<N:=by omega
 have w0:IntKind.wrap .i64 (0-0)=0:=by decide
 have w1:IntKind.wrap .i64 ((N:Int)-0)=N:=by rw[Int.sub_zero];exact xy (by omega)
 have a1:rJ .aS=some (I 0):=rfl
 have a2:jQ false .aS=some (I 0):=rfl
 have a3:ug h 1 .aS none (some (I 0)) none=some .aS:=rfl
 have a4:iY h 1 8 [I 0] .aS (I N)=some (.aH h.next 0 N 1,h.alloc (List.replicate N (I 0))):=by
  have c3:(N:Int)≤281474976710656:=by omega
  have c4:(N:Int)* 8≤281474976710656:=by omega
  have c5:roomy 8 N=true:=by simp [roomy];omega
  simp [iY,I,c3,c4,c5,Hs,hN0]
 have a5:ug (h.alloc (List.replicate N (I 0))) 1 (.aH h.next 0 N 1) none (some (I 0)) none=some (.aH h.next 0 0 1):=
  GW (by rw[H.aZ,if_pos rfl]) (by simp) (wU _) (Nat.zero_le _)
 refine vv (fn:=AP.f76) (e:=[(4,.aH h.next 0 0 1)]) rfl rfl rfl ?_ rfl
 simp only[I]at *
 simp only[AP.f76,go_sem,aaU c0,aaW c1,w0,w1,a1,a2,aaY,abc,a3,a4,a5]
def cat (ps:List (AV×List Int)):List Int:=ps.flatMap (·.2)
theorem HS (p:AV×List Int) (ps:List (AV×List Int)):cat (p::ps)=p.2++cat ps:=by simp [cat]
theorem Db {h:H} {x:AV} {all:List (AV×List Int)} (rd:Rd h x (all.map (·.1))) (hp:∀p∈all,Rd h p.1 (ints p.2)) (hT:(cat all).length<1000000000) (hA:all.length<1000000000):
 ∀(ps qs:List (AV×List Int)),all=qs++ps→
 ∃e',Lp AP.A [0,3,9,10,11] AP.f62L1 [(0,x),(3,I (cat qs).length),(9,x),(10,I all.length),(11,I qs.length)] h=some (.exit 0,e',h)∧look e' 0=x∧look e' 3=I (cat all).length
 | [], qs, hq => by
   rw[aa2]at hq;subst hq
   refine⟨[(0,x),(3,I (cat all).length),(9,x),(10,I all.length),(11,I all.length),(12,.bool false)],u6 ?_,rfl,rfl⟩
   have c1:¬(all.length:Int)<(all.length:Int):=by omega
   simp only[I]at *
   simp only[AP.f62L1,go_sem,aaU c1]
 | p :: ps, qs, hq => by
   have hlen:all.length=qs.length+(ps.length+1):=by rw[hq];simp
   have hct:(cat all).length=(cat qs).length+(p.2.length+(cat ps).length):=by rw[hq];simp [cat]
   have c1:(qs.length:Int)<(all.length:Int):=by omega
   have hv:(all.map (·.1))[qs.length]?=some p.1:=by rw[hq];simp
   obtain⟨a,p1,p2⟩:=rd.elem hv
   have p3:=p2 h (fun _ _ q=>q)
   have ln:=(hp p (by rw[hq];simp)).len
   rw[rk]at ln
   have w1:IntKind.wrap .i64 (((cat qs).length:Int)+p.2.length)=((cat (qs++[p])).length:Int):=by
    rw[show((cat qs).length:Int)+p.2.length=((cat (qs++[p])).length:Int)by simp [cat]];exact xy (by simp [cat]at *;omega)
   have c2:¬((cat (qs++[p])).length:Int)<0:=by omega
   have w2:IntKind.wrap .i64 ((qs.length:Int)+1)=((qs++[p]).length:Int):=by
    rw[xu];exact xy (n:=qs.length+1) (by omega)
   obtain⟨e',q1,q2,q3⟩:=Db rd hp hT hA ps (qs++[p]) (by rw[hq];simp)
   have step:aO (aU AP.A) bH AP.f62L1 (ay [(0,x),(3,I (cat qs).length),(9,x),(10,I all.length),(11,I qs.length)] [0,3,9,10,11]) h=some (.normal,[(0,x),(3,I (cat (qs++[p])).length),(9,x),(10,I all.length),(11,I (qs++[p]).length)],h):=by
    generalize hB:(qs++[p]).length=B at *
    simp only[I]at *
    simp only[AP.f62L1,go_sem,aaW c1,p1,p3,ln,w1,aaU c2,w2]
   exact⟨e',u9 step q1,q2,q3⟩
theorem Dc {h0 : H} {x : AV} {all : List (AV × List Int)} (rd : Rd h0 x (all.map (·.1))) (hp : ∀ p ∈ all, Rd h0 p.1 (ints p.2)) (hT : (cat all).length < 1000000000) (hA : all.length < 1000000000) (id : Nat) (hid : h0.next ≤ id) :
 ∀(ps qs:List (AV×List Int)) (h:H),all=qs++ps→h.floor≤id→h.get id=some (ints (cat qs)++List.replicate (cat ps).length (I 0))→(∀i c,h0.get i=some c→h.get i=some c)→
 ∃e' h',Lp AP.A [6,25,26,27] AP.f62L0 [(6,.aH id 0 (cat qs).length 1),(25,x),(26,I all.length),(27,I qs.length)] h=some (.exit 2,e',h')∧look e' 6=.aH id 0 (cat all).length 1∧h'.get id=some (ints (cat all))
 | [], qs, h, hq, hf, hg, hm => by
   rw[aa2]at hq;subst hq
   refine⟨[(6,.aH id 0 (cat all).length 1),(25,x),(26,I all.length),(27,I all.length),(28,.bool false)],h,u6 ?_,rfl,by rw[hg];simp [cat]⟩
   have c1:¬(all.length:Int)<(all.length:Int):=by omega
   simp only[I]at *
   simp only[AP.f62L0,go_sem,aaU c1]
 | p :: ps, qs, h, hq, hf, hg, hm => by
   have hlen:all.length=qs.length+(ps.length+1):=by rw[hq];simp
   have hct:(cat all).length=(cat qs).length+(p.2.length+(cat ps).length):=by rw[hq];simp [cat]
   have hcq:(cat (qs++[p])).length=(cat qs).length+p.2.length:=by simp [cat]
   have c1:(qs.length:Int)<(all.length:Int):=by omega
   have hv:(all.map (·.1))[qs.length]?=some p.1:=by rw[hq];simp
   obtain⟨a,p1,p2⟩:=rd.elem hv
   have p3:=p2 h hm
   have src:=((hp p (by rw[hq];simp)).mono hm).1
   rw[rk]at src
   have w2:IntKind.wrap .i64 ((qs.length:Int)+1)=((qs++[p]).length:Int):=by
    rw[xu];exact xy (n:=qs.length+1) (by omega)
   have hz:List.replicate (cat (p::ps)).length (I 0)=List.replicate p.2.length (I 0)++List.replicate (cat ps).length (I 0):=by
    rw[List.replicate_append_replicate,HS,xu]
   have hap:∃h1,mo h 1 8 (.aH id 0 (cat qs).length 1) p.1=some (.aH id 0 (cat (qs++[p])).length 1,h1)∧h1.floor=h.floor∧h1.get id=some (ints (cat (qs++[p]))++List.replicate (cat ps).length (I 0))∧∀i c,h0.get i=some c→h1.get i=some c:=by
    by_cases h0':p.2.length=0
    · have hp2:p.2=[]:=List.length_eq_zero_iff.1 h0'
      refine⟨h, ?_,rfl, ?_,hm⟩
      · unfold mo
        rw[src,wP]
        unfold eK
        rw[if_pos (by simp [h0']),hcq,h0',abl]
      · rw[hg,HS,hp2];simp [cat,hp2]
    · refine⟨h.set id (ints (cat (qs++[p]))++List.replicate (cat ps).length (I 0)), ?_,by simp,by rw[H.dY,if_pos rfl,hg];rfl,fun i c q=> ?_⟩
      · unfold mo
        rw[src,wP]
        have hs:setFrom (ints (cat qs)++List.replicate (cat (p::ps)).length (I 0)) (cat qs).length (ints p.2)=ints (cat (qs++[p]))++List.replicate (cat ps).length (I 0):=by
         have:=AJ (List.replicate p.2.length (I 0)) (ints p.2) (ints (cat qs)) (List.replicate (cat ps).length (I 0)) (by simp)
         rw[rk]at this
         rw[hz,this];simp [cat,rj]
        unfold eK
        dsimp only
        rw[if_neg h0',if_neg (by simp [kG])]
        rw[if_pos ⟨rfl,hf⟩,hg,wP,if_pos (by rw[hz];simp)]
        rw[abu,wY,hs,hcq]
      · rw[H.dY,if_neg (by have:=h0.lt _ _ q;omega)];exact hm i c q
   obtain⟨h1,ap1,ap2,ap3,ap4⟩:=hap
   obtain⟨e',h',q1,q2,q3⟩:=Dc rd hp hT hA id hid ps (qs++[p]) h1 (by rw[hq];simp) (by rw[ap2];exact hf) ap3 ap4
   have step:aO (aU AP.A) bH AP.f62L0 (ay [(6,.aH id 0 (cat qs).length 1),(25,x),(26,I all.length),(27,I qs.length)] [6,25,26,27]) h=some (.normal,[(6,.aH id 0 (cat (qs++[p])).length 1),(25,x),(26,I all.length),(27,I (qs++[p]).length)],h1):=by
    generalize hB:(qs++[p]).length=B at *
    simp only[I]at *
    simp only[AP.f62L0,go_sem,aaW c1,p1,p3,ap1,w2]
   exact⟨e',h',u9 step q1,q2,q3⟩
def xU (l:List Int):AV:=.aY false (ints l) 0 l.length 1
theorem y8 (h:H) (l:List Int):Rd h (xU l) (ints l):=by
 refine⟨?_,by intro s e;cases e⟩
 simp [aV,xU,xj]
theorem Mu (h:H) (x:AV) (ps:List (AV×List Int)) (rd:Rd h x (ps.map (·.1))) (hp:∀p∈ps,Rd h p.1 (ints p.2)) (hT:(cat ps).length<1000000000) (hA:ps.length<1000000000) (h0:0<(cat ps).length):aU AP.A 62 [x] h=some (xU (cat ps),h):=by
 have rd':=rd.mono (xY h)
 have hp':∀p∈ps,Rd h.eO p.1 (ints p.2):=fun p q=>(hp p q).mono (xY h)
 have ln:=rd.len
 rw[aa0]at ln
 obtain⟨e1,a1,a2,a3⟩:=Db rd' hp' hT hA ps [] rfl
 have a1':Lp AP.A [0,3,9,10,11] AP.f62L1 [(0,x),(3,I 0),(9,x),(10,I ps.length),(11,I 0)] h.eO=some (.exit 0,e1,h.eO):=a1
 clear a1
 have gc:=UY h.eO (cat ps).length h0 hT
 obtain⟨h1,hh1⟩:∃g,g=h.eO.alloc (List.replicate (cat ps).length (I 0)):=⟨_,rfl⟩
 rw[←hh1]at gc
 obtain⟨e2,h2,b1,b2,b3⟩:=Dc rd' hp' hT hA h.next (wU _) ps [] h1 rfl (by rw[hh1];simp) (by rw[hh1,H.aZ,if_pos (show h.next=h.eO.next from rfl)];rfl)
  (fun i c q=>by rw[hh1,H.aZ,if_neg (by have:=h.eO.lt _ _ q;omega)];exact q)
 have b1':Lp AP.A [6,25,26,27] AP.f62L0 [(6,.aH h.next 0 0 1),(25,x),(26,I ps.length),(27,I 0)] h1=some (.exit 2,e2,h2):=b1
 clear b1
 have hn:h.eO.next=h.next:=rfl
 refine vP (fn:=AP.f62) (h2:=h2) (e:=[(2,.aH h.next 0 (cat ps).length 1)]) (vs:=[.aH h.next 0 (cat ps).length 1]) rfl rfl rfl ?_ rfl ?_
 · simp only[I]at *
   simp only[AP.f62,go_sem,ln,uo,a1',a2,a3,gc,hn,b1',b2]
 · show snap h2.get h.next 16 true (.aH h.next 0 (cat ps).length 1)=_
   unfold snap
   rw[if_neg (by omega),b3,wP,if_pos (by simp)]
   have ht:((ints (cat ps)).drop 0).take ((cat ps).length* 1)=ints (cat ps):=by
    rw[aa8,abu,xj (by simp)]
   rw[ht,zG];rfl
def yV:List Int:=List.replicate 144 8++(List.replicate 112 9++(List.replicate 24 7++List.replicate 8 8))
theorem VZ (e:Env) (n:Int):bg e (.dj 1 1 [.int .i64 0] [(0,.c (.int .i64 n))])=some ([I n],fun i=>.aH i 0 1 1):=rfl
theorem CC (h:H) (n:Int):Rd (h.alloc [I n]) (.aH h.next 0 1 1) [I n]:=by
 refine⟨?_,by intro s e;cases e⟩
 simp [aV,H.aZ]
theorem Ov (h:H):aU AP.A 42 [] h=some (xU yV,h):=by
 have r1:=BA (h.eO.alloc [I 8]) (.aH h.eO.next 0 1 1) 8 144 (by omega) (CC _ _)
 have r2:=BA ((h.eO.alloc [I 8]).alloc [I 9]) (.aH (h.eO.alloc [I 8]).next 0 1 1) 9 112 (by omega) (CC _ _)
 have r3:=BA (((h.eO.alloc [I 8]).alloc [I 9]).alloc [I 7]) (.aH ((h.eO.alloc [I 8]).alloc [I 9]).next 0 1 1) 7 24 (by omega) (CC _ _)
 have r4:=BA ((((h.eO.alloc [I 8]).alloc [I 9]).alloc [I 7]).alloc [I 8]) (.aH (((h.eO.alloc [I 8]).alloc [I 9]).alloc [I 7]).next 0 1 1) 8 8 (by omega) (CC _ _)
 obtain⟨g4,hg4⟩:∃g,g=(((h.eO.alloc [I 8]).alloc [I 9]).alloc [I 7]).alloc [I 8]:=⟨_,rfl⟩
 obtain⟨v1,hv1⟩:∃v,v=AV.aY false (ints (List.replicate 144 8)) 0 144 1:=⟨_,rfl⟩
 obtain⟨v2,hv2⟩:∃v,v=AV.aY false (ints (List.replicate 112 9)) 0 112 1:=⟨_,rfl⟩
 obtain⟨v3,hv3⟩:∃v,v=AV.aY false (ints (List.replicate 24 7)) 0 24 1:=⟨_,rfl⟩
 obtain⟨v4,hv4⟩:∃v,v=AV.aY false (ints (List.replicate 8 8)) 0 8 1:=⟨_,rfl⟩
 have hc:cat [(v1,List.replicate 144 8),(v2,List.replicate 112 9),(v3,List.replicate 24 7),(v4,List.replicate 8 8)]=yV:=by
  simp only[cat,yV,abh,List.flatMap_nil,aa2]
 have hfl:yV.length=288:=by simp only[yV,xu,abk]
 have cc:=Mu (g4.alloc [v1,v2,v3,v4]) (.aH g4.next 0 4 1) [(v1,List.replicate 144 8),(v2,List.replicate 112 9),(v3,List.replicate 24 7),(v4,List.replicate 8 8)]
  ⟨by simp [aV,H.aZ],by intro s e;cases e⟩
  (by
    intro p hp
    simp only[xn,List.not_mem_nil,or_false]at hp
    rcases hp with rfl|rfl|rfl|rfl
    · rw[hv1];exact y8 _ _
    · rw[hv2];exact y8 _ _
    · rw[hv3];exact y8 _ _
    · rw[hv4];exact y8 _ _) (by rw[hc,hfl];omega) (by simp) (by rw[hc,hfl];omega)
 rw[hc]at cc
 have bt:∀e:Env,look e 2=v1→look e 4=v2→look e 6=v3→look e 8=v4→bg e (.dj 1 4 [.aS] [(0,.t 2),(1,.t 4),(2,.t 6),(3,.t 8)])=some ([v1,v2,v3,v4],fun i=>.aH i 0 4 1):=by
  intro e q1 q2 q3 q4
  simp only[bg,aa5,abn,ur,q1,q2,q3,q4]
  rw[hv1,hv2,hv3,hv4];rfl
 refine vP (fn:=AP.f42) (h2:=g4.alloc [v1,v2,v3,v4]) (e:=[(0,xU yV)]) rfl rfl rfl ?_ rfl ?_
 · rw[←hv1]at r1;rw[←hv2]at r2;rw[←hv3]at r3;rw[←hv4]at r4
   rw[←hg4]at r4
   have r1':aU AP.A 43 [.aH h.eO.next 0 1 1,I 144] (h.eO.alloc [I 8])=some (v1,h.eO.alloc [I 8]):=r1
   have r2':aU AP.A 43 [.aH (h.eO.alloc [I 8]).next 0 1 1,I 112] ((h.eO.alloc [I 8]).alloc [I 9])=some (v2,(h.eO.alloc [I 8]).alloc [I 9]):=r2
   have r3':aU AP.A 43 [.aH ((h.eO.alloc [I 8]).alloc [I 9]).next 0 1 1,I 24] (((h.eO.alloc [I 8]).alloc [I 9]).alloc [I 7])=some (v3,((h.eO.alloc [I 8]).alloc [I 9]).alloc [I 7]):=r3
   have r4':aU AP.A 43 [.aH (((h.eO.alloc [I 8]).alloc [I 9]).alloc [I 7]).next 0 1 1,I 8] g4=some (v4,g4):=r4
   clear r1 r2 r3 r4 hv1 hv2 hv3 hv4 hc
   simp only[I]at *
   simp only[AP.f42,go_sem,VZ,I,r1',r2',r3',←hg4,r4']
   rw[bt _ rfl rfl rfl rfl]
   simp only[nQ,uF,go_sem,cc]
 · simp only[dS];unfold snap xU;rfl
def yd:List Int:=[16,17,18,0,8,7,9,6,10,5,11,4,12,3,13,2,14,1,15]
theorem OX (h:H):aU AP.A 79 [] h=some (xU yd,h):=by
 have b:bg [] (.dj 1 19 [.int .i64 0] [(0,(.c (.int .i64 16))),(1,(.c (.int .i64 17))),(2,(.c (.int .i64 18))),(3,(.c (.int .i64 0))),(4,(.c (.int .i64 8))),(5,(.c (.int .i64 7))),(6,(.c (.int .i64 9))),(7,(.c (.int .i64 6))),(8,(.c (.int .i64 10))),(9,(.c (.int .i64 5))),(10,(.c (.int .i64 11))),(11,(.c (.int .i64 4))),(12,(.c (.int .i64 12))),(13,(.c (.int .i64 3))),(14,(.c (.int .i64 13))),(15,(.c (.int .i64 2))),(16,(.c (.int .i64 14))),(17,(.c (.int .i64 1))),(18,(.c (.int .i64 15)))])=some (ints yd,fun i=>.aH i 0 19 1):=rfl
 refine vP (fn:=AP.f79) (h2:=h.eO.alloc (ints yd)) (e:=[(0,.aH h.next 0 19 1)]) (vs:=[.aH h.next 0 19 1]) rfl rfl rfl ?_ rfl ?_
 · have hn:h.eO.next=h.next:=rfl
   simp only[AP.f79,go_sem,b,hn]
 · show snap (h.eO.alloc (ints yd)).get h.next 16 true (.aH h.next 0 19 1)=_
   unfold snap
   rw[if_neg (by omega),H.aZ,if_pos (show h.next=h.eO.next from rfl),wP,if_pos (by decide)]
   rw[show((ints yd).drop 0).take (19* 1)=ints yd from rfl,zG];rfl
def MQ (c:ae) (d:Option Nat) (r:List aj) (e:Env) (p:Option (AV×H)):Option (Env×H×List H):=p.bind fun q=>aQ c r (aP d q.1 e) q.2
theorem DW (c:ae) (d:Option Nat) (r:List aj) (e:Env) (v:AV) (h:H):MQ c d r e (some (v,h))=aQ c r (aP d v e) h:=wM rfl rfl
def LK (aR:Bool) (h:H) (p:Option (Env×H×List H)):Option (Env×H×List H):=p.bind fun q=>some (q.1,q.2.1,if aR then h::q.2.2 else q.2.2)
theorem D4 (h:H) (e:Env) (h':H) (gs:List H):LK true h (some (e,h',gs))=some (e,h',h::gs):=wM rfl rfl
theorem D3 (h:H) (e:Env) (h':H) (gs:List H):LK false h (some (e,h',gs))=some (e,h',gs):=wM rfl rfl
theorem Bz (c:ae) (e:Env) (h:H):aQ c [] e h=some (e,h,[h]):=wM rfl rfl
theorem GF (c:ae) (o:aj) (r:List aj) (e:Env) (h:H):aQ c (o::r) e h=LK o.op.aR h (MQ c o.dst r e (ai c o e h)):=by
 rw[aQ]
 unfold LK MQ
 cases hv:ai c o e h with
 |none=>rfl
 | some q =>
   obtain⟨v,h'⟩:=q
   simp only[wP]
theorem DZ (c:ae) (d:Option Nat) (op:cq) (r:List aj) (e:Env) (h:H):aQ c (⟨d,op,none⟩::r) e h=LK op.aR h (MQ c d r e (ah c e h op)):=GF _ _ _ _ _
theorem Nc (c:ae) (d:Option Nat) (op:cq) (g:Nat) (w:Bool) (r:List aj) (e:Env) (h:H):aQ c (⟨d,op,some (g,w)⟩::r) e h=LK op.aR h (MQ c d r e (mK w c e h op (look e g))):=GF _ _ _ _ _
theorem GU {c:ae} {l:bQ} {e e':Env} {h h':H} {gs:List H} (ord:List Nat) (ops:List aj) (fl:List (Nat×List Nat)) (yR:List Nat) (h1:aQ c ops e h=some (e',h',gs)) (h2:bh c ops e' gs fl=true):aO c l (.jG ord ops fl yR) e h=some (.normal,ay e' yR,h'):=by
 rw[aO,h1,wP]
 dsimp only
 rw[if_pos h2]
theorem BC {c:ae} {ops:List aj} {e:Env} {gs:List H} {i:Nat} {ks:List Nat} {r:List (Nat×List Nat)} (h1:∀k∈ks,bO c ops e gs i k=true) (h2:bh c ops e gs r=true):bh c ops e gs ((i,ks)::r)=true:=by
 simp only[bh,wT,aba]
 exact⟨h1,h2⟩
theorem BB {c:ae} {ops:List aj} {e:Env} {gs:List H} {i k:Nat} {o:aj} {g h':H} {d:Nat} {u:AV} (ho:ops[i]?=some o) (hg:gs[k]?=some g) (hb:o.op.aK=false) (hd:o.dst=some d) (hv:ai c o e g=some (u,h')) (hu:AV.beq u (look e d)=true):bO c ops e gs i k=true:=by
 unfold bO
 rw[ho,hg]
 dsimp only
 rw[hb]
 simp only[wR,xp,hd,aaY,hv]
 exact hu
theorem Ep (k:IntKind) (n:Int):AV.beq (.int k n) (.int k n)=true:=by simp [AV.beq]
theorem C7 (i o l z:Nat):AV.beq (.aH i o l z) (.aH i o l z)=true:=by simp [AV.beq]
theorem HJ (i o:Nat):AV.beq (.aG i o) (.aG i o)=true:=by simp [AV.beq]
theorem Er (s:ByteArray):AV.beq (.str s) (.str s)=true:=by
 have:(s==s)=true:=by
  obtain⟨d⟩:=s
  show(d==d)=true
  exact beq_self_eq_true d
 simp [AV.beq,this]
theorem oU.apps {h:H} {v:AV} {cs:List AV} (o:oU h v cs) (hfn:h.floor≤h.next) {z:Nat} (bs:List AV) (hc:AV.aE bs=true) (hb:0<bs.length) (hr:roomy z (cs.length+bs.length)=true):
 ∃v' h',eK h 1 z v bs.length bs=some (v',h')∧oU h' v' (cs++bs)∧h'.floor=h.floor∧h.next≤h'.next∧(∀i,v.id?≠some i→i≠h.next→h'.get i=h.get i)∧v'.id?=some h.next:=by
 have hne:bs≠[]:=by intro e;rw[e]at hb;simp at hb
 rcases o with ⟨rfl,rfl⟩|⟨id,rfl,hg,hf,hne'⟩
 · refine⟨.aH h.next 0 bs.length 1,h.alloc bs, ?_,.inr ⟨h.next,by simp,by simp [H.aZ], ?_,by simpa using hne⟩,by simp,by simp,fun i _ hi=>by rw[H.aZ,if_neg hi],rfl⟩
   · unfold eK
     rw[if_neg (by omega),if_neg (by simp [hc])]
     simp only[aaX,wY]at hr
     simp only[hr,if_true]
   · simp;omega
 · refine⟨.aH h.next 0 (cs.length+bs.length) 1,(h.del id).alloc (cs++bs), ?_,.inr ⟨h.next,by simp,by simp [H.aZ], ?_,by simp [hne]⟩,by simp,by simp,fun i h1 h2=> ?_,rfl⟩
   · unfold eK
     rw[if_neg (by omega),if_neg (by simp [hc])]
     simp only[hf,and_self,if_true,hg,wP]
     rw[if_neg (by omega),if_pos ⟨by omega,hr⟩]
     simp
   · have:=h.lt id cs hg;simp;omega
   · rw[H.aZ,H.kd,if_neg h2,H.eS,if_neg]
     intro e;subst e;exact h1 rfl
theorem St.yR {c:SC} {S:SS} {h h':H} {ov:AV} (st:St c S h ov) (hf:h'.floor=h.floor) (hn:h.next≤h'.next) (hg:∀i,i=c.s∨i=c.r∨ov.id?=some i→h'.get i=h.get i):St c S h' ov:=by
 refine⟨by rw[hg _ (.inl rfl)];exact st.gs,by rw[hg _ (.inr (.inl rfl))];exact st.gr,st.own.mono hf fun i hi=>hg i (.inr (.inr hi)),st.sr,by rw[hf];exact st.fs,by rw[hf];exact st.fr,st.os,st.or,by rw[hf];exact xq st.nx hn,st.sz,st.zl,st.ol,st.ml⟩
theorem St.lt {c:SC} {S:SS} {h:H} {ov:AV} (st:St c S h ov) {i:Nat} (hi:i=c.s∨i=c.r∨ov.id?=some i):i<h.next:=by
 rcases hi with rfl|rfl|hi
 · exact h.lt _ _ st.gs
 · exact h.lt _ _ st.gr
 · exact st.own.lt hi
theorem St.alloc {c:SC} {S:SS} {h:H} {ov:AV} (st:St c S h ov) (cs:List AV):St c S (h.alloc cs) ov∧Fr c h ov (h.alloc cs) ov:=by
 refine⟨st.yR (by simp) (by simp) fun i hi=> ?_,⟨by simp,by simp,fun id h1 _ _ _=> ?_,fun _ q=>.inl q⟩⟩
 · have:=st.lt hi;rw[H.aZ,if_neg (by omega)]
 · rw[H.aZ,if_neg (by omega)]
def yU (c:SC) (y:Int) (acc:List Int) (S:SS):(Int×Nat)×SS:=
 if y=16 then(if acc=[]then((0,0),xM 700 S)else((acc.getD (acc.length-1) 0,3+(xK c 2 S).1),(xK c 2 S).2))
 else if y=17 then((0,3+(xK c 3 S).1),(xK c 3 S).2)
 else if y=18 then((0,11+(xK c 7 S).1),(xK c 7 S).2)
 else((y,1),S)
theorem Cu (c:SC) (S:SS) (n:Nat) (hn:n≤16):(xK c n S).1<65536:=by
 unfold xK;split
 · have:=yt c.text S.at_ n
   have:=abb (show 0<2 by omega) hn
   simp at *;omega
 · simp
theorem Cv {l:List Int} {i:Nat} (h:i<l.length):(ints l)[i]?=some (I (l.getD i 0)):=uM (by simp [List.getD,h])
theorem N5 {c : SC} {S : SS} {h : H} {ov : AV} (st : St c S h ov) (y : Int) {av : AV} {acc : List Int} (oa : oU h av (ints acc)) (ha : acc.length < 100000) (hne : ∀ i, av.id? = some i → i ≠ c.s ∧ i ≠ c.r ∧ ov.id? ≠ some i) :
 ∃h',aU AP.A 80 [.aG c.s 0,I y,av] h=some (.bW [I (yU c y acc S).1.1,I (yU c y acc S).1.2],h')∧St c (yU c y acc S).2 h' ov∧Fr c h ov h' ov:=by
 have ln:=oa.len
 rw[rk]at ln
 by_cases h16:y=16
 · have d16:=vW h16
   by_cases hnil:acc=[]
   · obtain⟨h',k1,k2,k3⟩:=zO st 700
     have e:yU c y acc S=((0,0),xM 700 S):=by rw[yU,if_pos h16,if_pos hnil]
     rw[e]
     refine⟨h', ?_,k2,k3⟩
     have hz:((acc.length:Int)==0)=true:=by rw[hnil];rfl
     refine vv (fn:=AP.f80) (e:=[(6,I 0),(7,I 0)]) rfl rfl rfl ?_ rfl
     simp only[I]at *
     simp only[AP.f80,go_sem,d16,ln,hz,k1]
   · obtain⟨h',k1,k2,k3⟩:=Bv st 2 2 rfl (by omega)
     have e:yU c y acc S=((acc.getD (acc.length-1) 0,3+(xK c 2 S).1),(xK c 2 S).2):=by rw[yU,if_pos h16,if_neg hnil]
     rw[e]
     have hpos:0<acc.length:=abo.2 hnil
     have hz:((acc.length:Int)==0)=false:=vV (by omega)
     have hg:=Cu c S 2 (by omega)
     have w1:IntKind.wrap .i64 (3+((xK c 2 S).1:Int))=((3+(xK c 2 S).1:Nat):Int):=by
      rw[show(3:Int)+((xK c 2 S).1:Int)=((3+(xK c 2 S).1:Nat):Int)by omega];exact xy (by omega)
     have w2:IntKind.wrap .i64 ((acc.length:Int)-1)=((acc.length-1:Nat):Int):=by
      rw[show(acc.length:Int)-1=((acc.length-1:Nat):Int)by omega];exact xy (by omega)
     have hel:=Cv (l:=acc) (i:=acc.length-1) (by omega)
     obtain⟨id,i1,i2,i3⟩:=oa.elem hel
     have hid:=hne id (by rw[i1];rfl)
     have i4:h'.get id=some (ints acc):=by rw[k3.Ek id (h.lt _ _ i3) hid.1 hid.2.1 hid.2.2];exact i3
     refine⟨h', ?_,k2,k3⟩
     refine vv (fn:=AP.f80) (e:=[(6,I (acc.getD (acc.length-1) 0)),(7,I (3+(xK c 2 S).1:Nat))]) rfl rfl rfl ?_ rfl
     generalize (xK c 2 S).1=G at *
     clear i1
     simp only[I]at *
     simp only[AP.f80,go_sem,d16,ln,hz]
     rw[GU (e':=[(7,.int .i64 ((3+G:Nat):Int)),(6,.int .i64 (acc.getD (acc.length-1) 0)),(24,.int .i64 ((3+G:Nat):Int)),(23,.int .i64 G),(22,.aG c.s 0),(21,.int .i64 (acc.getD (acc.length-1) 0)),(20,.aG id (acc.length-1)),(19,.int .i64 (acc.length-1:Nat)),(18,.int .i64 acc.length),(17,av),(16,av),(0,.aG c.s 0),(2,av)]) (h':=h') (gs:=[h,h'])]
     · simp only[go_sem]
     · simp only[Bz,DZ,DW,D4,D3,cq.aR,go_sem,ln,w2,i2,i3,hel,k1,w1]
     · refine BC (fun k hk=> ?_) rfl
       obtain rfl:k=1:=by simpa using hk
       refine BB (o:=⟨some 21,.load false 1 (.t 20),none⟩) (g:=h') (h':=h') (d:=21) (u:=.int .i64 (acc.getD (acc.length-1) 0)) rfl rfl rfl rfl ?_ ?_
       · simp only[ai,go_sem,i4,hel]
       · simp only[go_sem,Ep]
 · have d16:=vV h16
   by_cases h17:y=17
   · have d17:=vW h17
     obtain⟨h',k1,k2,k3⟩:=Bv st 3 3 rfl (by omega)
     have e:yU c y acc S=((0,3+(xK c 3 S).1),(xK c 3 S).2):=by rw[yU,if_neg h16,if_pos h17]
     rw[e]
     have hg:=Cu c S 3 (by omega)
     have w1:IntKind.wrap .i64 (3+((xK c 3 S).1:Int))=((3+(xK c 3 S).1:Nat):Int):=by
      rw[show(3:Int)+((xK c 3 S).1:Int)=((3+(xK c 3 S).1:Nat):Int)by omega];exact xy (by omega)
     refine⟨h', ?_,k2,k3⟩
     refine vv (fn:=AP.f80) (e:=[(6,I 0),(7,I (3+(xK c 3 S).1:Nat))]) rfl rfl rfl ?_ rfl
     simp only[I]at *
     simp only[AP.f80,go_sem,d16,d17,k1,w1]
   · have d17:=vV h17
     by_cases h18:y=18
     · have d18:=vW h18
       obtain⟨h',k1,k2,k3⟩:=Bv st 7 7 rfl (by omega)
       have e:yU c y acc S=((0,11+(xK c 7 S).1),(xK c 7 S).2):=by rw[yU,if_neg h16,if_neg h17,if_pos h18]
       rw[e]
       have hg:=Cu c S 7 (by omega)
       have w1:IntKind.wrap .i64 (11+((xK c 7 S).1:Int))=((11+(xK c 7 S).1:Nat):Int):=by
        rw[show(11:Int)+((xK c 7 S).1:Int)=((11+(xK c 7 S).1:Nat):Int)by omega];exact xy (by omega)
       refine⟨h', ?_,k2,k3⟩
       refine vv (fn:=AP.f80) (e:=[(6,I 0),(7,I (11+(xK c 7 S).1:Nat))]) rfl rfl rfl ?_ rfl
       simp only[I]at *
       simp only[AP.f80,go_sem,d16,d17,d18,k1,w1]
     · have d18:=vV h18
       have e:yU c y acc S=((y,1),S):=by rw[yU,if_neg h16,if_neg h17,if_neg h18]
       rw[e]
       refine⟨h, ?_,st,Fr.refl _ _ _⟩
       refine vv (fn:=AP.f80) (e:=[(6,I y),(7,I 1)]) rfl rfl rfl ?_ rfl
       simp only[I]at *
       simp only[AP.f80,go_sem,d16,d17,d18]
def F3 (t:ByteArray):List Int→Nat→List Int→List Int
 |[],_,o=>o
 |s::r,p,o=>F3 t r (p+3) (o.set s.toNat (xJ t p 3))
def yG (t:ByteArray) (y:Int) (acc:List Int) (p:Nat):Option (Int×Nat×Nat):=
 if y=16 then(if acc=[]then none else if p+2≤8* t.size then some (acc.getD (acc.length-1) 0,3+xJ t p 2,p+2)else none)
 else if y=17 then(if p+3≤8* t.size then some (0,3+xJ t p 3,p+3)else none)
 else if y=18 then(if p+7≤8* t.size then some (0,11+xJ t p 7,p+7)else none)
 else some (y,1,p)
def yr (t : ByteArray) (cl : List Int) (many : Nat) : Nat → List Int → Nat → Option (List Int × Nat)
 |0,_,_=>none
 | f + 1, acc, p => if acc.length < many then
     match Ar t cl 15 1 0 p with
     |none=>none
     | some (y, p1) => match yG t y acc p1 with
       |none=>none
       |some (n,times,p2)=>yr t cl many f (acc++List.replicate times n) p2
   else if many<acc.length then none else some (acc,p)
def AK (t : ByteArray) (many : Nat) (p : Nat) : Option (List Int × Nat) :=
 if p+4≤8* t.size then
  let k:=xJ t p 4+4
  if p+4+3* k≤8* t.size then
   let cl:=F3 t (yd.take k) (p+4) (List.replicate 19 0)
   if yf cl=0 then yr t cl many (8* t.size+1) [] (p+4+3* k)else none
  else none
 else none
theorem Jc {h:H} {t:Bool} {N k:Nat} {cs:List AV} (hN:cs.length=N) (hk:k≤N):ug h 1 (.aY t cs 0 N 1) none (some (I k)) none=some (.aY t cs 0 k 1):=by
 simp [ug,hN,aD,IM hk]
theorem GD:∀s∈yd,0≤s∧s<19:=by decide
def AH (c:SC):List Int→List Int→SS→List Int×SS
 |[],o,S=>(o,S)
 |s::r,o,S=>AH c r (o.set s.toNat ((xK c 3 S).1:Nat)) (xK c 3 S).2
theorem Fw (c:SC):∀(r o:List Int) (S:SS),(AH c r o S).1.length=o.length
 |[],o,S=>rfl
 |s::r,o,S=>by rw[AH,Fw c r];simp
theorem Kq (c : SC) : ∀ (r o : List Int) (S : SS), (∀ y ∈ o, 0 ≤ y ∧ y < 16) → ∀ y ∈ (AH c r o S).1, 0 ≤ y ∧ y < 16
 |[],o,S,h=>h
 | s :: r, o, S, h => by
   rw[AH]
   refine Kq c r _ _ fun y hy=> ?_
   rcases List.mem_or_eq_of_mem_set hy with q|q
   · exact h y q
   · subst q
     have:(xK c 3 S).1<8:=by
      unfold xK;split
      · simpa using yt c.text S.at_ 3
      · simp
     omega
theorem Hp (c:SC):∀(r o:List Int) (S:SS),S.e=0→S.at_+3* r.length≤8* c.text.size→AH c r o S=(F3 c.text r S.at_ o,{S with at_:=S.at_+3* r.length})
 |[],o,S,he,h=>rfl
 | s :: r, o, S, he, h => by
   rw[aaV]at h
   have eg:xK c 3 S=(xJ c.text S.at_ 3,{S with at_:=S.at_+3}):=by rw[xK,if_pos (by omega)]
   rw[AH,eg]
   dsimp only
   rw[Hp c r _ {S with at_:=S.at_+3} he (by dsimp only;omega)]
   simp only[F3,aaV]
   rw[show S.at_+3+3* r.length=S.at_+3* (r.length+1)by omega]
theorem Js (c:SC) (n:Nat) (S:SS) (h:S.e=0∨S.e=700):(xK c n S).2.e=0∨(xK c n S).2.e=700:=by
 unfold xK;split
 · exact h
 · rcases h with h|h<;>simp [xM,h]
theorem OA (c:SC) (n:Nat) (S:SS) (h:S.e=700):(xK c n S).2.e=700:=by
 unfold xK;split
 · exact h
 · simp [xM,h]
theorem Nh (c:SC):∀(r o:List Int) (S:SS),(S.e=0∨S.e=700)→((AH c r o S).2.e=0∨(AH c r o S).2.e=700)
 |[],o,S,h=>h
 |s::r,o,S,h=>by rw[AH];exact Nh c r _ _ (Js c 3 S h)
theorem Ho (c:SC):∀(r o:List Int) (S:SS),S.e=700→(AH c r o S).2.e=700
 |[],o,S,h=>h
 |s::r,o,S,h=>by rw[AH];exact Ho c r _ _ (OA c 3 S h)
theorem Fv (c:SC):∀(r o:List Int) (S:SS),S.e=0→S.at_≤8* c.text.size→8* c.text.size<S.at_+3* r.length→(AH c r o S).2.e=700
 |[],o,S,he,hle,h=>by simp at h;omega
 | s :: r, o, S, he, hle, h => by
   rw[AH]
   rw[aaV]at h
   by_cases hp:S.at_+3≤8* c.text.size
   · have eg:xK c 3 S=(xJ c.text S.at_ 3,{S with at_:=S.at_+3}):=by rw[xK,if_pos hp]
     rw[eg]
     exact Fv c r _ _ he hp (by dsimp only;omega)
   · have eg:xK c 3 S=(0,{S with e:=700}):=by rw[xK,if_neg hp,xM,if_pos he]
     rw[eg]
     exact Ho c r _ _ rfl
theorem IA {c:SC} (a:Nat) (x:AV) (xs:List Int) (hxs:∀s∈xs,0≤s∧s<19) (hxl:xs.length≤19) (hac:a≠c.s∧a≠c.r) (m:AV):∀(q p o:List Int) (S:SS) (h:H) (ov:AV),xs=p++q→Rd h x (ints xs)→(∀i,x.id?≠some i)→St c S h ov→ov.id?≠some a→h.get a=some (ints o)→o.length=19→h.floor≤a→
 ∃ e' h', Lp AP.A [0, 1, 5, 18, 19, 20] AP.f64L1 [(0, .aG c.s 0), (1, m), (5, .aG a 0), (18, x), (19, I xs.length), (20, I p.length)] h = some (.exit 0, e', h') ∧ look e' 0 = .aG c.s 0 ∧ look e' 1 = m ∧ look e' 5 = .aG a 0 ∧
   St c (AH c q o S).2 h' ov∧h'.get a=some (ints (AH c q o S).1)∧h'.floor=h.floor∧h.next≤h'.next∧∀i,i<h.next→i≠c.s→i≠c.r→ov.id?≠some i→i≠a→h'.get i=h.get i
 | [], p, o, S, h, ov, hp, rd, hx, st, hoa, hg, ho, hf => by
   rw[aa2]at hp;subst hp
   refine⟨[(0,.aG c.s 0),(1,m),(5,.aG a 0),(18,x),(19,I xs.length),(20,I xs.length),(21,.bool false)],h,u6 ?_,rfl,rfl,rfl,st,hg,rfl,wU _,fun _ _ _ _ _ _=>rfl⟩
   have c1:¬(xs.length:Int)<(xs.length:Int):=by omega
   simp only[I]at *
   simp only[AP.f64L1,go_sem,aaU c1]
 | s :: q, p, o, S, h, ov, hp, rd, hx, st, hoa, hg, ho, hf => by
   have hlen:xs.length=p.length+(q.length+1):=by rw[hp];simp
   have c1:(p.length:Int)<(xs.length:Int):=by omega
   have hs:=hxs s (by rw[hp];simp)
   obtain⟨sn,hsn⟩:∃n:Nat,s=n:=abd hs.1
   subst hsn
   have hv:(ints xs)[p.length]?=some (I sn):=uM (by rw[hp];simp)
   obtain⟨ad,p1,p2⟩:=rd.elem hv
   have p3:=p2 h (fun _ _ q=>q)
   obtain⟨h1,k1,k2,k3⟩:=Bv st 3 3 rfl (by omega)
   have hal:a<h.next:=h.lt _ _ hg
   have hg1:h1.get a=some (ints o):=by rw[k3.Ek a hal hac.1 hac.2 hoa];exact hg
   have a1:dC (I sn) 19=some sn:=lJ (by omega)
   have hset:(ints o).set sn (I ((xK c 3 S).1:Nat))=ints (o.set sn ((xK c 3 S).1:Nat)):=by simp [ints,List.map_set]
   have hst:vR h1 a sn 1 [I ((xK c 3 S).1:Nat)] (some (ints o))=some (h1.set a (ints (o.set sn ((xK c 3 S).1:Nat)))):=by
    rw[wx (by rw[k3.fl];exact hf) (by rw[rk];omega) rfl,hset]
   have w2:IntKind.wrap .i64 ((p.length:Int)+1)=(((p++[(sn:Int)]).length:Nat):Int):=by
    rw[xu];exact xy (n:=p.length+1) (by omega)
   have step:aO (aU AP.A) bH AP.f64L1 (ay [(0,.aG c.s 0),(1,m),(5,.aG a 0),(18,x),(19,I xs.length),(20,I p.length)] [0,1,5,18,19,20]) h=some (.normal,[(0,.aG c.s 0),(1,m),(5,.aG a 0),(18,x),(19,I xs.length),(20,I (p++[(sn:Int)]).length)],h1.set a (ints (o.set sn ((xK c 3 S).1:Nat)))):=by
    generalize ints (o.set sn ((xK c 3 S).1:Nat))=W at *
    generalize (p++[(sn:Int)]).length=B at *
    generalize (xK c 3 S).1=G at *
    generalize ints o=OO at *
    simp only[I]at *
    simp only[AP.f64L1,go_sem,aaW c1,p1,p3,k1,a1,hg1,hst,w2]
   have st2:St c (xK c 3 S).2 (h1.set a (ints (o.set sn ((xK c 3 S).1:Nat)))) ov:=k2.yR (by simp) (by simp) fun i hi=>by
    rw[H.dY,if_neg]
    rintro rfl
    rcases hi with hi|hi|hi
    · exact hac.1 hi
    · exact hac.2 hi
    · exact hoa hi
   have rd2:Rd (h1.set a (ints (o.set sn ((xK c 3 S).1:Nat)))) x (ints xs):=by
    refine⟨?_,rd.2⟩
    have:=rd.1
    unfold aV at this ⊢
    split at this
    · exact this
    · exact this
    · exact absurd rfl (hx _)
    · exact this
    · cases this
   obtain⟨e',h',q1,q2,q3,q4,q5,q6,q7,q8,q9⟩:=IA a x xs hxs hxl hac m q (p++[(sn:Int)]) (o.set sn ((xK c 3 S).1:Nat)) _ _ ov (by rw[hp];simp) rd2 hx st2 hoa (by rw[H.dY,if_pos rfl,hg1];rfl) (by simpa using ho) (by simp [k3.fl];exact hf)
   refine⟨e',h',u9 step q1,q2,q3,q4, ?_, ?_,by rw[q7];simp [k3.fl],by have:=k3.nx;simp at q8;omega,fun i i1 i2 i3 i4 i5=> ?_⟩
   · rw[AH];exact q5
   · rw[AH];exact q6
   · rw[q9 i (by have:=k3.nx;simp;omega) i2 i3 i4 i5,H.dY,if_neg i5,k3.Ek i i1 i2 i3 i4]
theorem AW {c:SC} {S:SS} {h:H} {ov:AV} (st:St c S h ov) (b:AV) (many:Nat) {av:AV} {acc:List Int} (oa:oU h av (ints acc)) (hs:many≤acc.length∨(acc.length<many∧S.e≠0)):
 ∃e',Lp AP.A [0,1,9,10] AP.f64L0 [(0,.aG c.s 0),(1,I many),(9,b),(10,av)] h=some (.exit 2,e',h)∧look e' 0=.aG c.s 0∧look e' 1=I many∧look e' 10=av:=by
 have gs:=st.gs
 have ln:=oa.len
 rw[rk]at ln
 refine⟨[(0,.aG c.s 0),(1,I many),(9,b),(10,av),(46,.bool false)],u6 ?_,rfl,rfl,rfl⟩
 rcases hs with hs|⟨hs,he⟩
 · have c1:¬(acc.length:Int)<many:=by omega
   simp only[I]at *
   simp only[AP.f64L0,go_sem,ln,aaU c1]
 · have c1:(acc.length:Int)<many:=by omega
   have c2:=vV he
   simp only[I]at *
   simp only[AP.f64L0,go_sem,ln,aaW c1,gs,c2]
theorem K2 {c : SC} {S : SS} {y : Int} {acc : List Int} (he : S.e = 0) :
 match yG c.text y acc S.at_ with
 |some (n,times,p)=>yU c y acc S=((n,times),{S with at_:=p})∧S.at_≤p
 |none=>(yU c y acc S).2.e=700:=by
 unfold yG yU
 by_cases h16:y=16
 · rw[if_pos h16,if_pos h16]
   by_cases hn:acc=[]
   · rw[if_pos hn,if_pos hn];simp [xM,he]
   · rw[if_neg hn,if_neg hn]
     by_cases hp:S.at_+2≤8* c.text.size
     · simp [xK,hp]
     · simp [xK,hp,xM,he]
 · rw [if_neg h16, if_neg h16]
   by_cases h17:y=17
   · rw[if_pos h17,if_pos h17]
     by_cases hp:S.at_+3≤8* c.text.size
     · simp [xK,hp]
     · simp [xK,hp,xM,he]
   · rw[if_neg h17,if_neg h17]
     by_cases h18:y=18
     · rw[if_pos h18,if_pos h18]
       by_cases hp:S.at_+7≤8* c.text.size
       · simp [xK,hp]
       · simp [xK,hp,xM,he]
     · rw[if_neg h18,if_neg h18]
       exact⟨rfl,wU _⟩
theorem GV (c:SC) (y:Int) (acc:List Int) (S:SS):(yU c y acc S).1.2<70000:=by
 unfold yU
 have h2:=Cu c S 2 (by omega)
 have h3:=Cu c S 3 (by omega)
 have h7:=Cu c S 7 (by omega)
 repeat' split
 all_goals (dsimp only;omega)
theorem Gt {c : SC} (h0 : H) (cl : List Int) (hcl : cl.length < 100000) (many : Nat) (hm : many ≤ 400) : ∀ (f : Nat) (acc : List Int) (S : SS) (h : H) (ov av : AV), St c S h ov → S.e = 0 → 8 * c.text.size < S.at_ + f → Fr c h0 ov h ov → oU h av (ints acc) → acc.length < 80000 → (∀ i, av.id? = some i → h0.next ≤ i) → (∀ i, (i = c.s ∨ i = c.r ∨ ov.id? = some i) → i < h0.next) →
 ∃ e' h' S' av' acc', Lp AP.A [0, 1, 9, 10] AP.f64L0 [(0, .aG c.s 0), (1, I many), (9, yg cl), (10, av)] h = some (.exit 2, e', h') ∧ look e' 0 = .aG c.s 0 ∧ look e' 1 = I many ∧ look e' 10 = av' ∧ St c S' h' ov ∧ Fr c h0 ov h' ov ∧ oU h' av' (ints acc') ∧ acc'.length < 200000 ∧ (∀ i, av'.id? = some i → h0.next ≤ i) ∧
   match yr c.text cl many f acc S.at_ with
   |some (L,p)=>S'={S with at_:=p}∧acc'=L∧L.length=many
   |none=>S'.e=700∨(S'.e=0∧many<acc'.length)
 |0,acc,S,h,ov,av,st,he,hk,fr,oa,hal,hid,hlo=>by have:=st.zl;omega
 | f + 1, acc, S, h, ov, av, st, he, hk, fr, oa, hal, hid, hlo => by
   by_cases hlt:acc.length<many
   · rw [yr, if_pos hlt]
     have gs:=st.gs
     have ln:=oa.len
     rw[rk]at ln
     have c1:(acc.length:Int)<many:=by omega
     obtain⟨h1,S1,y,s1,s2,s3,s4⟩:=FU cl hcl st he
     have hneq:∀i,av.id?=some i→i≠c.s∧i≠c.r∧ov.id?≠some i:=fun i hi=>by
      have:=hid i hi
      refine⟨fun e=> ?_,fun e=> ?_,fun e=> ?_⟩
      · have:=hlo i (.inl e);omega
      · have:=hlo i (.inr (.inl e));omega
      · have:=hlo i (.inr (.inr e));omega
     have oa1:oU h1 av (ints acc):=oa.mono s3.fl fun i hi=>s3.Ek i (oa.lt hi) (hneq i hi).1 (hneq i hi).2.1 (hneq i hi).2.2
     obtain⟨h2,r1,r2,r3⟩:=N5 s2 y oa1 (by omega) hneq
     have oa2:oU h2 av (ints acc):=oa1.mono r3.fl fun i hi=>r3.Ek i (oa1.lt hi) (hneq i hi).1 (hneq i hi).2.1 (hneq i hi).2.2
     obtain⟨n,hn⟩:∃n,n=(yU c y acc S1).1.1:=⟨_,rfl⟩
     obtain⟨times,htm⟩:∃n,n=(yU c y acc S1).1.2:=⟨_,rfl⟩
     obtain⟨S2,hS2⟩:∃n,n=(yU c y acc S1).2:=⟨_,rfl⟩
     have htb:=GV c y acc S1
     rw[←hn,←htm]at r1;rw[←hS2]at r2;rw[←htm]at htb
     have al:=r2.alloc [I n]
     have rp:=BA (h2.alloc [I n]) (.aH h2.next 0 1 1) n times (by omega) (CC _ _)
     have oa3:oU (h2.alloc [I n]) av (ints acc):=oa2.mono (by simp) fun i hi=>by
      have:=oa2.lt hi;rw[H.aZ,if_neg (by omega)]
     have hfr3:=((fr.trans s3).trans r3).trans al.2
     have hap:∃v' h3,mo (h2.alloc [I n]) 1 8 av (.aY false (ints (List.replicate times n)) 0 times 1)=some (v',h3)∧oU h3 v' (ints (acc++List.replicate times n))∧St c S2 h3 ov∧Fr c h0 ov h3 ov∧∀i,v'.id?=some i→h0.next≤i:=by
      have src:aV (h2.alloc [I n]) 1 (.aY false (ints (List.replicate times n)) 0 times 1)=some (times,ints (List.replicate times n)):=by
       simp [aV,xj]
      by_cases ht0:times=0
      · subst ht0
        refine⟨av,h2.alloc [I n], ?_,by simpa using oa3,al.1,hfr3,hid⟩
        unfold mo
        rw[src,wP]
        unfold eK
        rw[if_pos rfl]
        rcases oa3 with ⟨rfl,_⟩|⟨id,rfl,_⟩<;>rfl
      · have hnx:=al.1.nx
        obtain⟨v',h3,q1,q2,q3,q4,q5,q6⟩:=oa3.apps hnx (z:=8) (ints (List.replicate times n)) (kG _) (by simp;omega) (by simp [roomy];omega)
        refine⟨v',h3, ?_,by rw[rj];exact q2,al.1.yR q3 q4 fun i hi=> ?_,⟨q3.trans hfr3.fl,xq hfr3.nx q4,fun id i1 i2 i3 i4=> ?_,fun i hi=>.inl hi⟩,fun i hi=> ?_⟩
        · unfold mo
          rw[src,wP]
          have hl:(ints (List.replicate times n)).length=times:=by simp
          rw[hl]at q1;exact q1
        · have hlt0:=hlo i hi
          have hle:h0.next≤(h2.alloc [I n]).next:=hfr3.nx
          exact q5 i (fun e=>by have:=hid i e;omega) (by omega)
        · have hle:h0.next≤(h2.alloc [I n]).next:=hfr3.nx
          rw[q5 id (fun e=>by have:=hid id e;omega) (by omega)]
          exact hfr3.Ek id i1 i2 i3 i4
        · rw[q6]at hi;cases hi;exact hfr3.nx
     obtain⟨v',h3,ap1,ap2,ap3,ap4,ap5⟩:=hap
     have step:aO (aU AP.A) bH AP.f64L0 (ay [(0,.aG c.s 0),(1,I many),(9,yg cl),(10,av)] [0,1,9,10]) h=some (.normal,[(0,.aG c.s 0),(1,I many),(9,yg cl),(10,v')],h3):=by
      have bs:∀(e:Env),look e 57=.int .i64 n→bg e (.dj 1 1 [.int .i64 0] [(0,.t 57)])=some ([.int .i64 n],fun i=>.aH i 0 1 1):=by
       intro e q
       simp only[bg,aa5,abn,ur,q];rfl
      simp only[I]at *
      simp only[AP.f64L0,go_sem,ln,aaW c1,gs,he,s1,r1]
      rw[bs _ rfl]
      simp only[go_sem,rp,ap1]
     have hacc':(acc++List.replicate times n).length<80000:=by simp;omega
     cases hz:Ar c.text cl 15 1 0 S.at_ with
     | none =>
       rw[hz]at s4
       obtain⟨s4,s5⟩:=s4
       have hy:y=256:=s5
       have hag:yU c y acc S1=((y,1),S1):=by rw[yU,if_neg (by omega),if_neg (by omega),if_neg (by omega)]
       have hS2e:S2.e=700:=by rw[hS2,hag];exact s4
       dsimp only
       by_cases hlt2:(acc++List.replicate times n).length<many
       · obtain⟨e',q1,q2,q3,q4⟩:=AW ap3 (yg cl) many ap2 (.inr ⟨hlt2,by rw[hS2e];decide⟩)
         exact⟨e',h3,S2,v',_,u9 step q1,q2,q3,q4,ap3,ap4,ap2,by omega,ap5,.inl hS2e⟩
       · obtain⟨e',q1,q2,q3,q4⟩:=AW ap3 (yg cl) many ap2 (.inl (by omega))
         exact⟨e',h3,S2,v',_,u9 step q1,q2,q3,q4,ap3,ap4,ap2,by omega,ap5,.inl hS2e⟩
     | some yp =>
       obtain⟨z,p1⟩:=yp
       rw[hz]at s4
       obtain⟨s4,s5⟩:=s4
       subst s5 s4
       have zb:=Am hz
       have hok:=K2 (c:=c) (S:={S with at_:=p1}) (y:=y) (acc:=acc) he
       dsimp only at hok ⊢
       cases ha:yG c.text y acc p1 with
       | none =>
         rw[ha]at hok
         have hS2e:S2.e=700:=by rw[hS2];exact hok
         dsimp only
         by_cases hlt2:(acc++List.replicate times n).length<many
         · obtain⟨e',q1,q2,q3,q4⟩:=AW ap3 (yg cl) many ap2 (.inr ⟨hlt2,by rw[hS2e];decide⟩)
           exact⟨e',h3,S2,v',_,u9 step q1,q2,q3,q4,ap3,ap4,ap2,by omega,ap5,.inl hS2e⟩
         · obtain⟨e',q1,q2,q3,q4⟩:=AW ap3 (yg cl) many ap2 (.inl (by omega))
           exact⟨e',h3,S2,v',_,u9 step q1,q2,q3,q4,ap3,ap4,ap2,by omega,ap5,.inl hS2e⟩
       | some q =>
         obtain⟨n2,t2,p2⟩:=q
         rw[ha]at hok
         obtain⟨hok,hp12⟩:=hok
         rw[hok]at hn htm hS2
         dsimp only at hn htm hS2
         subst hn htm hS2
         obtain⟨e',h',S',av',acc',q1,q2,q3,q4,q5,q6,q7,q8,q9,q10⟩:=Gt h0 cl hcl many hm f (acc++List.replicate times n) _ h3 ov v' ap3 he (by dsimp only;omega) ap4 ap2 hacc' ap5 hlo
         exact⟨e',h',S',av',acc',u9 step q1,q2,q3,q4,q5,q6,q7,q8,q9,q10⟩
   · obtain⟨e',q1,q2,q3,q4⟩:=AW st (yg cl) many oa (.inl (by omega))
     refine⟨e',h,S,av,acc,q1,q2,q3,q4,st,fr,oa,by omega,hid, ?_⟩
     rw[yr,if_neg hlt]
     by_cases hgt:many<acc.length
     · rw[if_pos hgt];exact .inr ⟨he,hgt⟩
     · rw[if_neg hgt];exact⟨rfl,rfl,by omega⟩
theorem Lv {c : SC} {S : SS} {h : H} {ov : AV} (st : St c S h ov) (he : S.e = 0) (many : Nat) (hm0 : 0 < many) (hm : many ≤ 400) :
 ∃ h' S' av acc, aU AP.A 64 [.aG c.s 0, I many] h = some (av, h') ∧ St c S' h' ov ∧ Fr c h ov h' ov ∧ oU h' av (ints acc) ∧ (∀ i, av.id? = some i → h.next ≤ i) ∧ match AK c.text many S.at_ with
   |some (L,p)=>S'={S with at_:=p}∧acc=L∧L.length=many
   |none=>S'.e=700:=by
 have gs:=st.gs
 obtain⟨a,ha⟩:∃a,a=h.next:=⟨_,rfl⟩
 obtain⟨g0,hg0⟩:∃g,g=h.alloc (ints (List.replicate 19 0)):=⟨_,rfl⟩
 have al:=st.alloc (ints (List.replicate 19 0))
 rw[←hg0]at al
 have hga:g0.get a=some (ints (List.replicate 19 0)):=by rw[hg0,H.aZ,if_pos ha]
 have oc:=OX g0
 obtain⟨h1,k1,k2,k3⟩:=Bv al.1 4 4 rfl (by omega)
 obtain⟨G,hG⟩:∃G,G=(xK c 4 S).1:=⟨_,rfl⟩
 obtain⟨S1,hS1⟩:∃G,G=(xK c 4 S).2:=⟨_,rfl⟩
 rw[←hG]at k1;rw[←hS1]at k2
 have hG16:G<16:=by
  rw[hG];unfold xK;split
  · simpa using yt c.text S.at_ 4
  · simp
 have w1:IntKind.wrap .i64 ((G:Int)+4)=((G+4:Nat):Int):=xy (n:=G+4) (by omega)
 obtain⟨x,hx⟩:∃x,x=AV.aY false (ints yd) 0 (G+4) 1:=⟨_,rfl⟩
 have sl:ug h1 1 (xU yd) none (some (I (G+4:Nat))) none=some x:=by
  rw[hx];exact Jc (by rw[rk]) (by show G+4≤19;omega)
 have xl:jQ false x=some (I (G+4:Nat)):=by rw[hx];rfl
 obtain⟨xs,hxs⟩:∃xs,xs=yd.take (G+4):=⟨_,rfl⟩
 have hol:yd.length=19:=rfl
 have hxsl:xs.length=G+4:=by rw[hxs,abC,hol];omega
 have rdx:Rd h1 x (ints xs):=by
  refine⟨?_,by rw[hx];intro s e;cases e⟩
  have ht:(ints yd).take (G+4)=ints xs:=by rw[hxs];simp [ints,List.map_take]
  simp only[aV,hx,if_true]
  rw[if_pos (by rw[rk,hol];omega),aa8,abu,ht];simp [hxsl]
 have hac:a≠c.s∧a≠c.r:=⟨fun e=>by have:=st.lt (.inl e);omega,fun e=>by have:=st.lt (.inr (.inl e));omega⟩
 have hoa:ov.id?≠some a:=fun e=>by have:=st.lt (.inr (.inr e));omega
 have hga1:h1.get a=some (ints (List.replicate 19 0)):=by rw[k3.Ek a (g0.lt _ _ hga) hac.1 hac.2 hoa];exact hga
 have hfa:h1.floor≤a:=by rw[k3.fl,hg0,ha];simp;exact st.nx
 obtain⟨e2,h2,l1,l2,l3,l4,l5,l6,l7,l8,l9⟩:=IA (c:=c) a x xs (fun s hs=>GD s (List.mem_of_mem_take (hxs ▸ hs))) (by omega) hac (I many) xs [] (List.replicate 19 0) S1 h1 ov rfl rdx (by rw[hx];intro i e;cases e) k2 hoa hga1 (by simp) hfa
 obtain⟨cl,hcl⟩:∃cl,cl=(AH c xs (List.replicate 19 0) S1).1:=⟨_,rfl⟩
 obtain⟨S2,hS2⟩:∃cl,cl=(AH c xs (List.replicate 19 0) S1).2:=⟨_,rfl⟩
 rw[←hS2]at l5;rw[←hcl]at l6
 have hcll:cl.length=19:=by rw[hcl,Fw];simp
 have hclb:∀y∈cl,0≤y∧y<16:=by
  rw[hcl];refine Kq c _ _ _ fun y hy=> ?_
  obtain⟨_,rfl⟩:=List.mem_replicate.1 hy;omega
 rw[hxsl]at l1
 have l1':Lp AP.A [0,1,5,18,19,20] AP.f64L1 [(0,.aG c.s 0),(1,I many),(5,.aG a 0),(18,x),(19,I (G+4:Nat)),(20,I 0)] h1=some (.exit 0,e2,h2):=l1
 clear l1
 have fr2:Fr c h ov h2 ov:=by
  refine⟨by rw[l7,k3.fl,al.2.fl], ?_,fun id i1 i2 i3 i4=> ?_,fun i hi=>.inl hi⟩
  · have:=al.2.nx;have:=k3.nx;omega
  · have hn0:g0.next=h.next+1:=by rw[hg0];simp
    have:=k3.nx
    rw[l9 id (by omega) i2 i3 i4 (by omega),k3.Ek id (by omega) i2 i3 i4,al.2.Ek id i1 i2 i3 i4]
 have tW:nN h2 19 1 (.aG a 0) none none=some (.aH a 0 19 1):=by
  simp [nN,l6,aD,hcll]
 have iO:Rd h2 (.aH a 0 19 1) (ints cl):=by
  refine⟨?_,by intro s e;cases e⟩
  simp [aV,l6,hcll,xj]
 have ck:=G5 h2 (.aH a 0 19 1) cl (by omega) iO
 have mk:=CR h2 (.aH a 0 19 1) cl (by omega) hclb iO
 have hhead:(yf cl=0∧S2.e=0∧S.at_+4≤8* c.text.size∧S.at_+4+3* (xJ c.text S.at_ 4+4)≤8* c.text.size∧cl=F3 c.text (yd.take (xJ c.text S.at_ 4+4)) (S.at_+4) (List.replicate 19 0)∧S2={S with at_:=S.at_+4+3* (xJ c.text S.at_ 4+4)})∨((yf cl≠0∨S2.e≠0)∧(S2.e=0∨S2.e=700)∧AK c.text many S.at_=none):=by
  by_cases hp:S.at_+4≤8* c.text.size
  · have eg:xK c 4 S=(xJ c.text S.at_ 4,{S with at_:=S.at_+4}):=by rw[xK,if_pos hp]
    rw[eg]at hG hS1;dsimp only at hG hS1
    subst hS1
    by_cases hp2:S.at_+4+3* (xJ c.text S.at_ 4+4)≤8* c.text.size
    · have ok:=Hp c xs (List.replicate 19 0) {S with at_:=S.at_+4} he (by dsimp only;omega)
      rw[ok]at hcl hS2
      dsimp only at hcl hS2
      rw[hxsl,hG]at hS2
      rw[hxs,hG]at hcl
      by_cases hck:yf cl=0
      · exact .inl ⟨hck,by rw[hS2];exact he,hp,hp2,hcl,hS2⟩
      · refine .inr ⟨.inl hck,.inl (by rw[hS2];exact he), ?_⟩
        rw[AK,if_pos hp];dsimp only;rw[if_pos hp2,←hcl,if_neg hck]
    · have hb:=Fv c xs (List.replicate 19 0) {S with at_:=S.at_+4} he (by dsimp only;omega) (by dsimp only;omega)
      rw[←hS2]at hb
      refine .inr ⟨.inr (by rw[hb];decide),.inr hb, ?_⟩
      rw[AK,if_pos hp];dsimp only;rw[if_neg hp2]
  · have eg:xK c 4 S=(0,{S with e:=700}):=by rw[xK,if_neg hp,xM,if_pos he]
    rw[eg]at hS1;dsimp only at hS1
    have hb:=Ho c xs (List.replicate 19 0) S1 (by rw[hS1])
    rw[←hS2]at hb
    exact .inr ⟨.inr (by rw[hb];decide),.inr hb,by rw[AK,if_neg hp]⟩
 have hbk:∀(h3:H) (S3:SS),St c S3 h3 ov→Fr c h ov h3 ov→aU AP.A 41 [.aH a 0 19 1] h3=some (yg cl,h3)→nN h3 19 1 (.aG a 0) none none=some (.aH a 0 19 1)→
  (aO (aU AP.A) bH (.cond (.t 31) (.qz [⟨some 32,.mv (.t 0),none⟩,⟨some 33,.call (.c (.fn 45 [] [])) [(.t 32),(.c (.int .i64 700))],none⟩] [0,1,5]) .skip [0,1,5]) [(0,.aG c.s 0),(1,I many),(5,.aG a 0),(31,.bool (yf cl !=0))] h2=some (.normal,[(0,.aG c.s 0),(1,I many),(5,.aG a 0)],h3))→
  ∀(e4:Env) (h4:H) (av:AV) (acc:List Int) (h5:H),Lp AP.A [0,1,9,10] AP.f64L0 [(0,.aG c.s 0),(1,I many),(9,yg cl),(10,.aS)] h3=some (.exit 2,e4,h4)→look e4 0=.aG c.s 0→look e4 1=I many→look e4 10=av→jQ false av=some (I acc.length)→
  (many<acc.length→aU AP.A 45 [.aG c.s 0,I 700] h4=some (.bW [],h5))→(¬many<acc.length→h5=h4)→aU AP.A 64 [.aG c.s 0,I many] h=some (av,h5):=by
  intro h3 S3 st3 fr3 mk3 sla3 cnd e4 h4 av acc h5 m1 m2 m3 m4 m5 m6 m7
  refine vv (fn:=AP.f64) (e:=[(4,av)]) (vs:=[av]) rfl rfl rfl ?_ rfl
  have bt:∀e:Env,bg e (.alloc [.int .i64 0,.int .i64 0,.int .i64 0,.int .i64 0,.int .i64 0,.int .i64 0,.int .i64 0,.int .i64 0,.int .i64 0,.int .i64 0,.int .i64 0,.int .i64 0,.int .i64 0,.int .i64 0,.int .i64 0,.int .i64 0,.int .i64 0,.int .i64 0,.int .i64 0])=some (ints (List.replicate 19 0),fun i=>.aG i 0):=fun _=>rfl
  unfold AP.f64
  refine wk (e1:=[(0,.aG c.s 0),(1,I many)]) (h1:=h) rfl ?_
  refine wk (e1:=[(0,.aG c.s 0),(1,I many),(5,.aG a 0)]) (h1:=g0) ?_ ?_
  · simp only[go_sem,bt,←hg0,←ha]
  refine wk (e1:=[(0,.aG c.s 0),(1,I many),(5,.aG a 0),(6,xU yd)]) (h1:=g0) ?_ ?_
  · simp only[go_sem,oc]
  refine wk (e1:=[(0,.aG c.s 0),(1,I many),(5,.aG a 0)]) (h1:=h2) ?_ ?_
  · clear bt
    simp only[I]at *
    simp only[go_sem,k1,w1,aaY,abc,sl,xl,uo,l1',l2,l3,l4]
  refine wk (e1:=[(0,.aG c.s 0),(1,I many),(5,.aG a 0)]) (h1:=h3) ?_ ?_
  · refine wk (e1:=[(0,.aG c.s 0),(1,I many),(5,.aG a 0),(31,.bool (yf cl !=0))]) (h1:=h2) ?_ cnd
    simp only[I]at *
    simp only[go_sem,abc,tW,ck]
  refine wk (e1:=[(0,.aG c.s 0),(1,I many),(9,yg cl)]) (h1:=h3) ?_ ?_
  · simp only[go_sem,abc,sla3,mk3]
  refine wk (e1:=[(0,.aG c.s 0),(1,I many),(9,yg cl),(10,.aS)]) (h1:=h3) rfl ?_
  refine wk (e1:=[(0,.aG c.s 0),(1,I many),(10,av)]) (h1:=h4) ?_ ?_
  · simp only[go_sem,uo,m1,m2,m3,m4]
  refine wk (e1:=[(10,av)]) (h1:=h5) ?_ ?_
  · by_cases hgt:many<acc.length
    · have c1:(many:Int)<(acc.length:Int):=by omega
      have m6':=m6 hgt
      clear m6 m7
      simp only[I]at *
      simp only[go_sem,m5,aaW c1,m6']
    · have c1:¬(many:Int)<(acc.length:Int):=by omega
      have m7':=m7 hgt
      subst m7'
      clear m6 m7
      simp only[I]at *
      simp only[go_sem,m5,aaU c1]
  simp only[go_sem]
 rcases hhead with ⟨hck,he2,hp,hp2,hcl2,hS22⟩|⟨hbad,he2,hnone⟩
 · have hlen0:AK c.text many S.at_=yr c.text cl many (8* c.text.size+1) [] S2.at_:=by
    rw[AK,if_pos hp];dsimp only;rw[if_pos hp2,←hcl2,if_pos hck,hS22]
   have cnd:aO (aU AP.A) bH (.cond (.t 31) (.qz [⟨some 32,.mv (.t 0),none⟩,⟨some 33,.call (.c (.fn 45 [] [])) [(.t 32),(.c (.int .i64 700))],none⟩] [0,1,5]) .skip [0,1,5]) [(0,.aG c.s 0),(1,I many),(5,.aG a 0),(31,.bool (yf cl !=0))] h2=some (.normal,[(0,.aG c.s 0),(1,I many),(5,.aG a 0)],h2):=by
    have cb:(yf cl !=0)=false:=vX hck
    simp only[go_sem,cb]
   obtain⟨e4,h4,S4,av,acc,m1,m2,m3,m4,m5,m6,m7,m8,m9,m10⟩:=Gt h cl (by omega) many hm (8* c.text.size+1) [] S2 h2 ov .aS l5 he2 (by omega) fr2 (.inl ⟨rfl,rfl⟩) (by simp) (fun i q=>by cases q) (fun i hi=>st.lt hi)
   have ln:=m7.len
   rw[rk]at ln
   rw[hlen0]
   cases hL:yr c.text cl many (8* c.text.size+1) [] S2.at_ with
   | some q =>
     obtain⟨L,p⟩:=q
     rw[hL]at m10
     obtain⟨n1,n2,n3⟩:=m10
     have hng:¬many<acc.length:=by rw[n2];omega
     refine⟨h4,S4,av,acc,hbk h2 S2 l5 fr2 mk tW cnd e4 h4 av acc h4 m1 m2 m3 m4 ln (fun q=>absurd q hng) (fun _=>rfl),m5,m6,m7,m9, ?_,n2,n3⟩
     rw[n1,hS22]
   | none =>
     rw[hL]at m10
     dsimp only at m10 ⊢
     by_cases hgt:many<acc.length
     · obtain⟨h5,f1,f2,f3⟩:=zO m5 700
       refine⟨h5,xM 700 S4,av,acc,hbk h2 S2 l5 fr2 mk tW cnd e4 h4 av acc h5 m1 m2 m3 m4 ln (fun _=>f1) (fun q=>absurd hgt q),f2,m6.trans f3, ?_,m9, ?_⟩
       · refine m7.mono f3.fl fun i hi=>f3.Ek i (m7.lt hi) (fun e=> ?_) (fun e=> ?_) (fun e=> ?_)
         · have:=m9 i hi;have:=st.lt (.inl e);omega
         · have:=m9 i hi;have:=st.lt (.inr (.inl e));omega
         · have:=m9 i hi;have:=st.lt (.inr (.inr e));omega
       · rcases m10 with q|⟨q,_⟩<;>simp [xM,q]
     · refine⟨h4,S4,av,acc,hbk h2 S2 l5 fr2 mk tW cnd e4 h4 av acc h4 m1 m2 m3 m4 ln (fun q=>absurd q hgt) (fun _=>rfl),m5,m6,m7,m9, ?_⟩
       rcases m10 with q|⟨_,q⟩
       · exact q
       · exact absurd q hgt
 · rw [hnone]
   have key:∃h3 S3,St c S3 h3 ov∧Fr c h ov h3 ov∧S3.e=700∧h3.get a=some (ints cl)∧aO (aU AP.A) bH (.cond (.t 31) (.qz [⟨some 32,.mv (.t 0),none⟩,⟨some 33,.call (.c (.fn 45 [] [])) [(.t 32),(.c (.int .i64 700))],none⟩] [0,1,5]) .skip [0,1,5]) [(0,.aG c.s 0),(1,I many),(5,.aG a 0),(31,.bool (yf cl !=0))] h2=some (.normal,[(0,.aG c.s 0),(1,I many),(5,.aG a 0)],h3):=by
    by_cases hck:yf cl=0
    · have hb:S2.e≠0:=by rcases hbad with q|q;exact absurd hck q;exact q
      refine⟨h2,S2,l5,fr2,by rcases he2 with q|q;exact absurd q hb;exact q,l6, ?_⟩
      have cb:(yf cl !=0)=false:=vX hck
      simp only[go_sem,cb]
    · obtain⟨h3,f1,f2,f3⟩:=zO l5 700
      refine⟨h3,xM 700 S2,f2,fr2.trans f3,by rcases he2 with q|q<;>simp [xM,q],by rw[f3.Ek a (h2.lt _ _ l6) hac.1 hac.2 hoa];exact l6, ?_⟩
      have cb:(yf cl !=0)=true:=vY hck
      simp only[I]at *
      simp only[go_sem,cb,f1]
   obtain⟨h3,S3,st3,fr3,he3,hg3,cnd⟩:=key
   have sla3:nN h3 19 1 (.aG a 0) none none=some (.aH a 0 19 1):=by
    simp [nN,hg3,aD,hcll]
   have rdc3:Rd h3 (.aH a 0 19 1) (ints cl):=by
    refine⟨?_,by intro s e;cases e⟩
    simp [aV,hg3,hcll,xj]
   have mk3:=CR h3 (.aH a 0 19 1) cl (by omega) hclb rdc3
   obtain⟨e4,m1,m2,m3,m4⟩:=AW st3 (yg cl) many (av:=.aS) (acc:=[]) (.inl ⟨rfl,rfl⟩) (.inr ⟨by simpa using hm0,by rw[he3];decide⟩)
   exact⟨h3,S3,.aS,[],hbk h3 S3 st3 fr3 mk3 sla3 cnd e4 h3 .aS [] h3 m1 m2 m3 m4 rfl (fun q=>by simp at q) (fun _=>rfl),st3,fr3,.inl ⟨rfl,rfl⟩,(fun i q=>by cases q),he3⟩
def zY (l:List Int):Prop:=∀y∈l,0≤y∧y<16
theorem Ja {t : ByteArray} {y : Int} {acc : List Int} {n : Int} {q times p2 : Nat} (hy : 0 ≤ y ∧ y < 19) (ha : zY acc) (h : yG t y acc q = some (n, times, p2)) : 0 ≤ n ∧ n < 16 := by
 unfold yG at h
 split at h
 · split at h
   · cases h
   · rename_i hn
     split at h
     · have:=abt (fun o=>o.map (·.1)) h
       simp only[aaY,wK]at this
       rw[←this]
       have hl:0<acc.length:=abo.2 hn
       refine ha _ ?_
       rw[aaZ,abe (by omega)]
       exact List.getElem_mem _
     · cases h
 · split at h
   · split at h
     · have:=abt (fun o=>o.map (·.1)) h
       simp only[aaY,wK]at this;omega
     · cases h
   · split at h
     · split at h
       · have:=abt (fun o=>o.map (·.1)) h
         simp only[aaY,wK]at this;omega
       · cases h
     · have:=abt (fun o=>o.map (·.1)) h
       simp only[aaY,wK]at this;omega
theorem Ds {t : ByteArray} {cl : List Int} (hcl : cl.length = 19) {many : Nat} : ∀ {f : Nat} {acc : List Int} {p : Nat} {L : List Int} {p2 : Nat}, zY acc → yr t cl many f acc p = some (L, p2) → zY L
 |0,_,_,_,_,_,h=>by cases h
 | f + 1, acc, p, L, p2, ha, h => by
   rw[yr]at h
   split at h
   · split at h
     · cases h
     · rename_i y p1 hs
       have sb:=Am hs
       split at h
       · cases h
       · rename_i n times q hag
         have hr:=Ja ⟨sb.1,by omega⟩ ha hag
         exact Ds hcl (fun y hy=>by
          rcases abA.1 hy with hy|hy
          · exact ha y hy
          · obtain⟨_,rfl⟩:=List.mem_replicate.1 hy;exact hr) h
   · split at h
     · cases h
     · have:=abt (fun o=>o.map (·.1)) h
       simp only[aaY,wK]at this;rw[←this];exact ha
theorem Iz (t:ByteArray):∀(r:List Int) (p:Nat) (o:List Int),(F3 t r p o).length=o.length
 |[],_,_=>rfl
 |s::r,p,o=>by rw[F3,Iz t r];simp
theorem Gs {t:ByteArray} {many p:Nat} {L:List Int} {p2:Nat} (h:AK t many p=some (L,p2)):zY L:=by
 unfold AK at h
 split at h
 · dsimp only at h
   split at h
   · split at h
     · exact Ds (by rw[Iz];simp) (fun y hy=>by cases hy) h
     · cases h
   · cases h
 · cases h
def FZ (t : ByteArray) (most : Int) (p : Nat) (out : List Nat) : Rs :=
 if p+10≤8* t.size then
  let lits:=xJ t p 5+257
  let dists:=xJ t (p+5) 5+1
  if 286<lits∨30<dists then .error 700 else
  match AK t (lits+dists) (p+10)with
  |none=>.error 700
  | some (L, p2) =>
    if yf (L.take lits)≠0∨(L.take lits).getD 256 0=0∨(yf (L.drop lits)≠0∧zh (L.drop lits)=false)then .error 700
    else Ag t most (L.take lits) (L.drop lits) (8* t.size+1) p2 out
 else .error 700
theorem Le {c : SC} {S : SS} {h : H} {ov : AV} (st : St c S h ov) (he : S.e = 0) :
 ∃h' ov' S',aU AP.A 44 [.aG c.s 0] h=some (.bW [],h')∧St c S' h' ov'∧Fr c h ov h' ov'∧Fin (FZ c.text c.most S.at_ S.out) S':=by
 obtain⟨h1,a1,a2,a3⟩:=Bv st 5 5 rfl (by omega)
 obtain⟨h2,b1,b2,b3⟩:=Bv a2 5 5 rfl (by omega)
 obtain⟨A,hA⟩:∃n,n=(xK c 5 S).1:=⟨_,rfl⟩
 obtain⟨S1,hS1⟩:∃n,n=(xK c 5 S).2:=⟨_,rfl⟩
 rw[←hA]at a1;rw[←hS1]at a2 b1 b2
 obtain⟨B,hB⟩:∃n,n=(xK c 5 S1).1:=⟨_,rfl⟩
 obtain⟨S2,hS2⟩:∃n,n=(xK c 5 S1).2:=⟨_,rfl⟩
 rw[←hB]at b1;rw[←hS2]at b2
 have g5:∀S,(xK c 5 S).1<32:=fun S=>by
  unfold xK;split
  · simpa using yt c.text S.at_ 5
  · simp
 have hA32:A<32:=hA ▸ g5 S
 have hB32:B<32:=hB ▸ g5 S1
 have w1:IntKind.wrap .i64 ((A:Int)+257)=((A+257:Nat):Int):=xy (n:=A+257) (by omega)
 have w2:IntKind.wrap .i64 ((B:Int)+1)=((B+1:Nat):Int):=xy (n:=B+1) (by omega)
 have gs2:=b2.gs
 have he2:S2.e=0∨S2.e=700:=by rw[hS2];exact Js c 5 _ (by rw[hS1];exact Js c 5 S (.inl he))
 have fr2:=a3.trans b3
 have bad:(S2.e≠0∨286<A+257∨30<B+1)→∃h' ov' S',aU AP.A 44 [.aG c.s 0] h=some (.bW [],h')∧St c S' h' ov'∧Fr c h ov h' ov'∧S'.e=700∧(700:Int)≠0:=by
  intro hb
  obtain⟨h3,f1,f2,f3⟩:=zO b2 700
  refine⟨h3,ov,xM 700 S2, ?_,f2,fr2.trans f3,by rcases he2 with q|q<;>simp [xM,q],by decide⟩
  refine vv (fn:=AP.f44) (e:=[]) (vs:=[]) rfl rfl rfl ?_ rfl
  by_cases c1:S2.e=0
  · have c1':=vX c1
    by_cases c2:286<A+257
    · have c2':(286:Int)<((A+257:Nat):Int):=by omega
      simp only[I]at *
      simp only[AP.f44,go_sem,a1,b1,w1,w2,gs2,c1',aaW c2',f1]
    · have c2':¬(286:Int)<((A+257:Nat):Int):=by omega
      have c3':(30:Int)<((B+1:Nat):Int):=by
       rcases hb with q|q|q
       · exact absurd c1 q
       · exact absurd q c2
       · omega
      simp only[I]at *
      simp only[AP.f44,go_sem,a1,b1,w1,w2,gs2,c1',aaU c2',aaW c3',f1]
  · have c1':=vY c1
    simp only[I]at *
    simp only[AP.f44,go_sem,a1,b1,w1,w2,gs2,c1',f1]
 unfold FZ
 by_cases hp:S.at_+10≤8* c.text.size
 · have e1 : xK c 5 S = (xJ c.text S.at_ 5, { S with at_ := S.at_ + 5 }) := by rw [xK, if_pos (by omega)]
   rw[e1]at hA hS1;dsimp only at hA hS1
   have e2:xK c 5 {S with at_:=S.at_+5}=(xJ c.text (S.at_+5) 5,{S with at_:=S.at_+5+5}):=by rw[xK,if_pos (by show S.at_+5+5≤_;omega)]
   rw[hS1,e2]at hB hS2;dsimp only at hB hS2
   rw[if_pos hp]
   dsimp only
   rw[←hA,←hB]
   by_cases hbig:286<A+257∨30<B+1
   · rw[if_pos hbig];exact bad (.inr hbig)
   · rw [if_neg hbig]
     have c1':(S2.e !=0)=false:=vX (by rw[hS2];exact he)
     have c2':¬(286:Int)<((A+257:Nat):Int):=by omega
     have c3':¬(30:Int)<((B+1:Nat):Int):=by omega
     have w3:IntKind.wrap .i64 (((A+257:Nat):Int)+((B+1:Nat):Int))=((A+257+(B+1):Nat):Int):=by
      rw[show((A+257:Nat):Int)+((B+1:Nat):Int)=((A+257+(B+1):Nat):Int)by omega];exact xy (by omega)
     obtain⟨h3,S3,av,acc,l1,l2,l3,l4,l5,l6⟩:=Lv b2 (by rw[hS2];exact he) (A+257+(B+1)) (by omega) (by omega)
     have gs3:=l2.gs
     have hat2:S2.at_=S.at_+10:=by rw[hS2]
     rw[hat2]at l6
     cases hL:AK c.text (A+257+(B+1)) (S.at_+10)with
     | none =>
       rw[hL]at l6
       have c4:(S3.e !=0)=true:=vY (by rw[l6];decide)
       refine⟨h3,ov,S3, ?_,l2,fr2.trans l3,l6,by decide⟩
       refine vv (fn:=AP.f44) (e:=[(0,.aG c.s 0),(2,I (A+257:Nat)),(4,av),(37,.bool true)]) (vs:=[]) rfl rfl rfl ?_ rfl
       simp only[I]at *
       simp only[AP.f44,go_sem,a1,b1,w1,w2,gs2,c1',aaU c2',aaU c3',w3,l1,gs3,c4]
     | some q =>
       obtain⟨L,p2⟩:=q
       rw[hL]at l6
       obtain⟨l6,l7,l8⟩:=l6
       subst l7
       have hrng:=Gs hL
       dsimp only
       have he3:S3.e=0:=by rw[l6,hS2];exact he
       have c4:(S3.e !=0)=false:=vX he3
       obtain⟨id,hav,hgid⟩:∃id,av=.aH id 0 (A+257+(B+1)) 1∧h3.get id=some (ints acc):=by
        rcases l4 with ⟨_,q⟩|⟨id,q1,q2,_⟩
        · have:=abt List.length q;rw[rk,l8,aaX]at this;omega
        · exact⟨id,by rw[q1,rk,l8],q2⟩
       have hil:(ints acc).length=A+257+(B+1):=by rw[rk,l8]
       have s1:=GW (h:=h3) (k:=A+257) hgid hil (wU _) (by omega)
       have s2:=Jd (h:=h3) (k:=A+257) hgid hil (by omega)
       rw[show A+257+(B+1)-(A+257)=B+1 by omega]at s2
       rw[←hav]at s1 s2
       obtain⟨la,hla⟩:∃x,x=acc.take (A+257):=⟨_,rfl⟩
       obtain⟨lb,hlb⟩:∃x,x=acc.drop (A+257):=⟨_,rfl⟩
       have hlal:la.length=A+257:=by rw[hla,abC];omega
       have hlbl:lb.length=B+1:=by rw[hlb,List.length_drop];omega
       have ra:Rd h3 (.aH id 0 (A+257) 1) (ints la):=by
        refine⟨?_,by intro s e;cases e⟩
        simp only[aV,if_true,hgid,wP]
        rw[if_pos (by rw[hil];omega),hla];simp [ints,List.map_take];omega
       have rb:Rd h3 (.aH id (A+257) (B+1) 1) (ints lb):=by
        refine⟨?_,by intro s e;cases e⟩
        simp only[aV,if_true,hgid,wP]
        rw[if_pos (by rw[hil];omega),hlb]
        have:(ints (acc.drop (A+257))).length=B+1:=by rw[rk,←hlb,hlbl]
        rw[this,ints,ints,←List.map_drop,abu,xj (by rw[aa0,←hlb,hlbl];omega)]
       rw[←hla,←hlb]
       have cka:=G5 h3 _ la (by omega) ra
       have ckb:=G5 h3 _ lb (by omega) rb
       have hra:zY la:=fun y hy=>hrng y (List.mem_of_mem_take (hla ▸ hy))
       have hrb:zY lb:=fun y hy=>hrng y (List.mem_of_mem_drop (hlb ▸ hy))
       have sgb:=NA h3 _ lb (by omega) hrb rb
       have mka:=CR h3 _ la (by omega) hra ra
       have mkb:=CR h3 _ lb (by omega) hrb rb
       have hel:=Cv (l:=la) (i:=256) (by omega)
       obtain⟨ad,p1,p2'⟩:=ra.elem hel
       have p3:=p2' h3 (fun _ _ q=>q)
       have p1':gZ 1 (.aH id 0 (A+257) 1) (I 256)=some ad:=p1
       clear p1 p2'
       obtain⟨cb,hcb⟩:∃b:Bool,(b=true↔yf la≠0∨la.getD 256 0=0∨(yf lb≠0∧zh lb=false)):=⟨decide _,decide_eq_true_iff⟩
       have step:∀k,aO (aU AP.A) bH k [(0,.aG c.s 0),(2,I (A+257:Nat)),(4,av)] h3=aO (aU AP.A) bH k [(0,.aG c.s 0),(2,I (A+257:Nat)),(4,av)] h3:=fun _=>rfl
       by_cases hbad:yf la≠0∨la.getD 256 0=0∨(yf lb≠0∧zh lb=false)
       · rw [if_pos hbad]
         obtain⟨h4,f1,f2,f3⟩:=zO l2 700
         refine⟨h4,ov,xM 700 S3, ?_,f2,(fr2.trans l3).trans f3,by simp [xM,he3],by decide⟩
         refine vv (fn:=AP.f44) (e:=[]) (vs:=[]) rfl rfl rfl ?_ rfl
         by_cases d1:yf la=0
         · have d1':=vX d1
           by_cases d2:la.getD 256 0=0
           · have d2':=vW d2
             simp only[I]at *
             simp only[AP.f44,go_sem,a1,b1,w1,w2,gs2,c1',aaU c2',aaU c3',w3,l1,gs3,c4,aaY,abc,s1,s2,cka,d1',p1',p3,d2',f1]
           · have d2':=vV d2
             obtain⟨d3,d4⟩:yf lb≠0∧zh lb=false:=by
              rcases hbad with q|q|q
              · exact absurd d1 q
              · exact absurd q d2
              · exact q
             have d3':=vY d3
             rw[d4]at sgb
             simp only[I]at *
             simp only[AP.f44,go_sem,a1,b1,w1,w2,gs2,c1',aaU c2',aaU c3',w3,l1,gs3,c4,aaY,abc,s1,s2,cka,d1',p1',p3,d2',ckb,d3',sgb,f1]
         · have d1':=vY d1
           simp only[I]at *
           simp only[AP.f44,go_sem,a1,b1,w1,w2,gs2,c1',aaU c2',aaU c3',w3,l1,gs3,c4,aaY,abc,s1,s2,cka,d1',f1]
       · rw [if_neg hbad]
         have d1:yf la=0:=Decidable.byContradiction fun q=>hbad (.inl q)
         have d2:la.getD 256 0≠0:=fun q=>hbad (.inr (.inl q))
         have d1':=vX d1
         have d2':=vV d2
         obtain⟨h4,ov4,S4,q1,q2,q3,q4⟩:=JP la lb (by omega) (by omega) l2 he3
         refine⟨h4,ov4,S4, ?_,q2,(fr2.trans l3).trans q3, ?_⟩
         · refine yE (fn:=AP.f44) (e:=[]) (vs:=[]) rfl rfl rfl ?_ rfl
           by_cases d3:yf lb=0
           · have d3':=vX d3
             simp only[I]at *
             simp only[AP.f44,go_sem,a1,b1,w1,w2,gs2,c1',aaU c2',aaU c3',w3,l1,gs3,c4,aaY,abc,s1,s2,cka,d1',p1',p3,d2',ckb,d3',mka,mkb,q1]
           · have d3':=vY d3
             have d4:zh lb=true:=by
              cases hs:zh lb with
              |true=>rfl
              |false=>exact absurd (.inr (.inr ⟨d3,hs⟩)) hbad
             rw[d4]at sgb
             simp only[I]at *
             simp only[AP.f44,go_sem,a1,b1,w1,w2,gs2,c1',aaU c2',aaU c3',w3,l1,gs3,c4,aaY,abc,s1,s2,cka,d1',p1',p3,d2',ckb,d3',sgb,mka,mkb,q1]
         · have:S3.at_=p2:=by rw[l6]
           have ho:S3.out=S.out:=by rw[l6,hS2]
           rw[this,ho]at q4;exact q4
 · rw[if_neg hp]
   refine bad (.inl ?_)
   rw[hS2,hS1]
   unfold xK
   by_cases q1:S.at_+5≤8* c.text.size
   · simp only[if_pos q1];rw[if_neg (by omega)];simp [xM,he]
   · simp only[if_neg q1,xM,he,if_true];split<;>simp
def AZ (t : ByteArray) (most : Int) (p : Nat) (out : List Nat) : Except Int (Bool × Nat × List Nat) :=
 if p+3≤8* t.size then
  let r:Rs:=if xJ t (p+1) 2=0 then AQ t most (p+3) out
   else if xJ t (p+1) 2=1 then Ag t most yV (List.replicate 30 5) (8* t.size+1) (p+3) out
   else if xJ t (p+1) 2=2 then FZ t most (p+3) out
   else .error 700
  match r with
  | .ok q=>.ok (xJ t p 1==1,q.1,q.2)
  | .error k=>.error k
 else .error 700
def VN (r:Except Int (Bool×Nat×List Nat)) (b:Bool) (S:SS):Prop:=match r with
 | .ok q=>b=q.1∧S=⟨q.2.1,q.2.2,0⟩
 | .error k=>S.e=k∧k≠0
theorem A3:yV.length=288:=by simp only[yV,xu,abk]
theorem Jn:zY yV:=by
 intro y hy
 simp only[yV,abA]at hy
 rcases hy with hy|hy|hy|hy<;>(obtain⟨_,rfl⟩:=List.mem_replicate.1 hy;omega)
theorem Lf:zY (List.replicate 30 5):=by
 intro y hy
 obtain⟨_,rfl⟩:=List.mem_replicate.1 hy;omega
theorem Oc {c : SC} {S : SS} {h : H} {ov : AV} (st : St c S h ov) (he : S.e = 0) :
 ∃h' ov' S' b,aU AP.A 15 [.aG c.s 0] h=some (.bool b,h')∧St c S' h' ov'∧Fr c h ov h' ov'∧VN (AZ c.text c.most S.at_ S.out) b S':=by
 obtain⟨h1,a1,a2,a3⟩:=Bv st 1 1 rfl (by omega)
 obtain⟨h2,b1,b2,b3⟩:=Bv a2 2 2 rfl (by omega)
 obtain⟨A,hA⟩:∃n,n=(xK c 1 S).1:=⟨_,rfl⟩
 obtain⟨S1,hS1⟩:∃n,n=(xK c 1 S).2:=⟨_,rfl⟩
 rw[←hA]at a1;rw[←hS1]at a2 b1 b2
 obtain⟨B,hB⟩:∃n,n=(xK c 2 S1).1:=⟨_,rfl⟩
 obtain⟨S2,hS2⟩:∃n,n=(xK c 2 S1).2:=⟨_,rfl⟩
 rw[←hB]at b1;rw[←hS2]at b2
 have gs2:=b2.gs
 have fr2:=a3.trans b3
 obtain⟨lb,hlb⟩:∃b:Bool,b=((A:Int)==1):=⟨_,rfl⟩
 unfold AZ
 by_cases hp:S.at_+3≤8* c.text.size
 · rw [if_pos hp]
   have e1:xK c 1 S=(xJ c.text S.at_ 1,{S with at_:=S.at_+1}):=by rw[xK,if_pos (by omega)]
   rw[e1]at hA hS1;dsimp only at hA hS1
   have e2:xK c 2 {S with at_:=S.at_+1}=(xJ c.text (S.at_+1) 2,{S with at_:=S.at_+1+2}):=by rw[xK,if_pos (by show S.at_+1+2≤_;omega)]
   rw[hS1,e2]at hB hS2;dsimp only at hB hS2
   have he2:S2.e=0:=by rw[hS2];exact he
   have hat:S2.at_=S.at_+3:=by rw[hS2]
   have hout:S2.out=S.out:=by rw[hS2]
   dsimp only
   rw[←hA,←hB]
   have hlb2:lb=(A==1):=by
    rw[hlb];by_cases q:A=1
    · subst q;rfl
    · rw[vV (by omega)];symm;simp [q]
   have wrap:∀(r:Rs) (h':H) (ov':AV) (S':SS),aU AP.A 15 [.aG c.s 0] h=some (.bool lb,h')→St c S' h' ov'→Fr c h2 ov h' ov'→Fin r S'→∃h' ov' S' b,aU AP.A 15 [.aG c.s 0] h=some (.bool b,h')∧St c S' h' ov'∧Fr c h ov h' ov'∧VN (match r with| .ok q=>.ok (A==1,q.1,q.2)| .error k=>.error k) b S':=by
    intro r h' ov' S' q1 q2 q3 q4
    refine⟨h',ov',S',lb,q1,q2,fr2.trans q3, ?_⟩
    cases r with
    |ok q=>exact⟨hlb2,q4⟩
    |error k=>exact q4
   have c0:(S2.e==0)=true:=vW he2
   by_cases d0:B=0
   · rw[if_pos d0]
     obtain⟨h',ov',S',q1,q2,q3,q4⟩:=NK b2 he2
     rw[hat,hout]at q4
     refine wrap _ h' ov' S' ?_ q2 q3 q4
     have d0':((B:Int)==0)=true:=vW (by omega)
     refine vv (fn:=AP.f15) (e:=[(2,.bool lb)]) rfl rfl rfl ?_ rfl
     simp only[I]at *
     simp only[AP.f15,go_sem,a1,b1,←hlb,d0',gs2,c0,q1]
   · rw [if_neg d0]
     have d0':((B:Int)==0)=false:=vV (by omega)
     by_cases d1:B=1
     · rw[if_pos d1]
       have d1':((B:Int)==1)=true:=vW (by omega)
       have f1:=Ov h2
       have m1:=CR h2 (xU yV) yV (by rw[A3];omega) Jn (y8 _ _)
       have al:=b2.alloc [I 5]
       have r1:=BA (h2.alloc [I 5]) (.aH h2.next 0 1 1) 5 30 (by omega) (CC _ _)
       have r1':aU AP.A 43 [.aH h2.next 0 1 1,I 30] (h2.alloc [I 5])=some (xU (List.replicate 30 5),h2.alloc [I 5]):=by
        rw[xU,abk];exact r1
       have m2:=CR (h2.alloc [I 5]) (xU (List.replicate 30 5)) (List.replicate 30 5) (by rw[abk];omega) Lf (y8 _ _)
       obtain⟨h',ov',S',q1,q2,q3,q4⟩:=JP yV (List.replicate 30 5) (by rw[A3];omega) (by rw[abk];omega) al.1 he2
       rw[hat,hout]at q4
       refine wrap _ h' ov' S' ?_ q2 (al.2.trans q3) q4
       refine vv (fn:=AP.f15) (e:=[(2,.bool lb)]) rfl rfl rfl ?_ rfl
       clear r1
       generalize yg yV=bf at *
       generalize yg (List.replicate 30 5)=bd at *
       generalize xU yV=vf at *
       generalize xU (List.replicate 30 5)=vd at *
       simp only[I]at *
       simp only[AP.f15,go_sem,a1,b1,←hlb,d0',d1',f1,m1,VZ,I,r1',m2,q1]
     · rw[if_neg d1]
       have d1':((B:Int)==1)=false:=vV (by omega)
       by_cases d2:B=2
       · rw[if_pos d2]
         have d2':((B:Int)==2)=true:=vW (by omega)
         obtain⟨h',ov',S',q1,q2,q3,q4⟩:=Le b2 he2
         rw[hat,hout]at q4
         refine wrap _ h' ov' S' ?_ q2 q3 q4
         refine vv (fn:=AP.f15) (e:=[(2,.bool lb)]) rfl rfl rfl ?_ rfl
         simp only[I]at *
         simp only[AP.f15,go_sem,a1,b1,←hlb,d0',d1',d2',q1]
       · rw[if_neg d2]
         have d2':((B:Int)==2)=false:=vV (by omega)
         obtain⟨h',q1,q2,q3⟩:=zO b2 700
         refine wrap (.error 700) h' ov _ ?_ q2 q3 ⟨by simp [xM,he2],by decide⟩
         refine vv (fn:=AP.f15) (e:=[(2,.bool lb)]) rfl rfl rfl ?_ rfl
         simp only[I]at *
         simp only[AP.f15,go_sem,a1,b1,←hlb,d0',d1',d2',q1]
 · rw [if_neg hp]
   have hB0:B=0∧S2.e=700:=by
    by_cases q1:S.at_+1≤8* c.text.size
    · have e1:xK c 1 S=(xJ c.text S.at_ 1,{S with at_:=S.at_+1}):=by rw[xK,if_pos q1]
      rw[e1]at hS1;dsimp only at hS1
      have e2:xK c 2 S1=(0,{S1 with e:=700}):=by rw[xK,if_neg (by rw[hS1];show¬S.at_+1+2≤_;omega),xM,if_pos (by rw[hS1];exact he)]
      rw[e2]at hB hS2
      exact⟨hB,by rw[hS2]⟩
    · have e1:xK c 1 S=(0,{S with e:=700}):=by rw[xK,if_neg q1,xM,if_pos he]
      rw[e1]at hS1;dsimp only at hS1
      have e2:xK c 2 S1=(0,S1):=by rw[xK,if_neg (by rw[hS1];show¬S.at_+2≤_;omega),xM,if_neg (by rw[hS1];simp)]
      rw[e2]at hB hS2
      exact⟨hB,by rw[hS2,hS1]⟩
   have d0':((B:Int)==0)=true:=vW (by omega)
   have c0:(S2.e==0)=false:=vV (by rw[hB0.2];decide)
   refine⟨h2,ov,S2,lb, ?_,b2,fr2,hB0.2,by decide⟩
   refine vv (fn:=AP.f15) (e:=[(2,.bool lb)]) rfl rfl rfl ?_ rfl
   simp only[I]at *
   simp only[AP.f15,go_sem,a1,b1,←hlb,d0',gs2,c0]
def zR (t : ByteArray) (most : Int) : Nat → Nat → List Nat → Rs
 |0,_,_=>.error 700
 | f + 1, p, out => match AZ t most p out with
   | .error k=>.error k
   | .ok (last,p2,o)=>if last then .ok (p2,o)else zR t most f p2 o
theorem Ic {c:SC} {S:SS} {h:H} {ov:AV} (st:St c S h ov) (b:Bool) (hs:b=true∨S.e≠0):
 ∃e',Lp AP.A [7,8] AP.f7L0 [(7,.aG c.s 0),(8,.bool b)] h=some (.exit 0,e',h)∧look e' 7=.aG c.s 0:=by
 have gs:=st.gs
 refine⟨[(7,.aG c.s 0),(28,.bool false)],u6 ?_,rfl⟩
 cases b with
 | true =>
   simp only[I]at *
   simp only[AP.f7L0,go_sem]
 | false =>
   have c2:(S.e==0)=false:=vV (by rcases hs with q|q;cases q;exact q)
   simp only[I]at *
   simp only[AP.f7L0,go_sem,gs,c2]
theorem Ea {t:ByteArray} {most:Int}:∀{n p:Nat} {out:List Nat} {p2:Nat} {o:List Nat},zD t most n p out=.ok (p2,o)→p≤p2
 |0,p,out,p2,o,h=>by rw[zD]at h;cases h;exact wU _
 | n + 1, p, out, p2, o, h => by
   rw[zD]at h
   split at h
   · split at h
     · cases h
     · have:=Ea h;omega
   · cases h
theorem Br {t : ByteArray} {most : Int} {ll dl : List Int} : ∀ {k p : Nat} {out : List Nat} {p2 : Nat} {o : List Nat}, Ag t most ll dl k p out = .ok (p2, o) → p < p2
 |0,_,_,_,_,h=>by cases h
 | k + 1, p, out, p2, o, h => by
   rw[Ag]at h
   split at h
   · cases h
   · rename_i y p1 hs
     have sb:=Am hs
     split at h
     · split at h
       · cases h
       · have:=Br h;omega
     · split at h
       · cases h;omega
       · split at h
         · rename_i p3 o3 hc
           have:=HU hc
           have:=Br h;omega
         · cases h
theorem Eh {t : ByteArray} {cl : List Int} {many : Nat} : ∀ {f : Nat} {acc : List Int} {p : Nat} {L : List Int} {p2 : Nat}, yr t cl many f acc p = some (L, p2) → p ≤ p2
 |0,_,_,_,_,h=>by cases h
 | f + 1, acc, p, L, p2, h => by
   rw[yr]at h
   split at h
   · split at h
     · cases h
     · rename_i y p1 hs
       have sb:=Am hs
       split at h
       · cases h
       · rename_i n times q hag
         have:=Eh h
         have:p1≤q:=by
          unfold yG at hag
          repeat' split at hag
          all_goals first
           |(cases hag;done)
           |(have:=abt (fun o=>o.map (·.2.2)) hag;simp only[aaY,wK]at this;omega)
         omega
   · split at h
     · cases h
     · have:=abt (fun o=>o.map (·.2)) h
       simp only[aaY,wK]at this;omega
theorem F9 {t : ByteArray} {most : Int} {p : Nat} {out : List Nat} {q : Bool × Nat × List Nat} (h : AZ t most p out = .ok q) : p < q.2.1 := by
 unfold AZ at h
 split at h
 · dsimp only at h
   have key:∀{r:Rs},(match r with| .ok q=>Except.ok (xJ t p 1==1,q.1,q.2)| .error k=>.error k)=Except.ok (ε:=Int) q→∃z,r=.ok z∧z.1=q.2.1:=by
    intro r h
    cases r with
    |ok z=>cases h;exact⟨z,rfl,rfl⟩
    |error k=>cases h
   obtain⟨z,h1,h2⟩:=key h
   rw[←h2]
   split at h1
   · unfold AQ at h1
     dsimp only at h1
     split at h1
     · split at h1
       · have:=Ea h1;omega
       · cases h1
     · cases h1
   · split at h1
     · have:=Br h1;omega
     · split at h1
       · unfold FZ at h1
         split at h1
         · dsimp only at h1
           split at h1
           · cases h1
           · split at h1
             · cases h1
             · rename_i L p2 hl
               split at h1
               · cases h1
               · have:=Br h1
                 have:p+3≤p2:=by
                  unfold AK at hl
                  split at hl
                  · dsimp only at hl
                    split at hl
                    · split at hl
                      · have:=Eh hl;omega
                      · cases hl
                    · cases hl
                  · cases hl
                 omega
         · cases h1
       · cases h1
 · cases h
theorem Ib {c : SC} : ∀ (f : Nat) (S : SS) (h : H) (ov : AV), St c S h ov → S.e = 0 → 8 * c.text.size < S.at_ + f →
 ∃e' h' ov' S',Lp AP.A [7,8] AP.f7L0 [(7,.aG c.s 0),(8,.bool false)] h=some (.exit 0,e',h')∧look e' 7=.aG c.s 0∧St c S' h' ov'∧Fr c h ov h' ov'∧Fin (zR c.text c.most f S.at_ S.out) S'
 |0,S,h,ov,st,he,hk=>by have:=st.zl;omega
 | f + 1, S, h, ov, st, he, hk => by
   have gs:=st.gs
   obtain⟨h1,ov1,S1,b,q1,q2,q3,q4⟩:=Oc st he
   have step:aO (aU AP.A) bH AP.f7L0 (ay [(7,.aG c.s 0),(8,.bool false)] [7,8]) h=some (.normal,[(7,.aG c.s 0),(8,.bool b)],h1):=by
    simp only[I]at *
    simp only[AP.f7L0,go_sem,gs,he,q1]
   rw[zR]
   cases hb:AZ c.text c.most S.at_ S.out with
   | error k =>
     rw[hb]at q4
     obtain⟨e',r1,r2⟩:=Ic q2 b (.inr (by rw[q4.1];exact q4.2))
     exact⟨e',h1,ov1,S1,u9 step r1,r2,q2,q3,q4⟩
   | ok z =>
     obtain⟨last,p2,o⟩:=z
     rw[hb]at q4
     obtain⟨q5,q6⟩:=q4
     dsimp only at q5 q6 ⊢
     subst q5
     cases b with
     | true =>
       obtain⟨e',r1,r2⟩:=Ic q2 true (.inl rfl)
       exact⟨e',h1,ov1,S1,u9 step r1,r2,q2,q3,q6⟩
     | false =>
       have hge:=F9 hb
       dsimp only at hge
       subst q6
       obtain⟨e',h',ov',S',r1,r2,r3,r4,r5⟩:=Ib f _ h1 ov1 q2 rfl (by dsimp only;omega)
       exact⟨e',h',ov',S',u9 step r1,r2,r3,q3.trans r4,r5⟩
def bytesOf (l:List Nat):ByteArray:=⟨(l.map UInt8.ofNat).toArray⟩
def Ai (t:ByteArray) (most:Int):Except Int (List Nat×Nat):=
 if most<0∨8192<most then .error 700 else
 match zR t most (8* t.size+1) 0 []with
 | .ok q=>.ok (q.2,(q.1+7)/8)
 | .error k=>.error k
def Lq (r:Except Int (List Nat×Nat)):AV:=match r with
 | .ok q=>.bW [.str (bytesOf q.1),I q.2,I 0]
 | .error k=>.bW [.str ⟨#[]⟩,I 0,I k]
theorem GX:∀l:List Nat,mu (Bl l)=some (l.map UInt8.ofNat)
 |[]=>rfl
 | x :: l => by
   have:Bl (x::l)=.int .u8 x::Bl l:=rfl
   rw[this,mu,GX l];simp
theorem JF {h:H} {v:AV} {l:List Nat} (o:oU h v (Bl l)):vH h v (aV h 1 v)=some (.str (bytesOf l),h):=by
 rcases o with ⟨rfl,q⟩|⟨id,rfl,q,_⟩
 · have:l=[]:=by cases l with|nil=>rfl|cons _ _=>cases q
   subst this;rfl
 · simp only[aV,if_true,q,wP]
   rw[if_pos (by omega)]
   have:((Bl l).drop 0).take ((Bl l).length* 1)=Bl l:=by rw[aa8,abu,List.take_length]
   rw[this]
   simp only[vH,wP,GX];rfl
theorem Lr (h : H) (hf : h.floor ≤ h.next) (t : ByteArray) (most : Int) (hs : t.size < 1125899906842624) : aU AP.A 7 [.str t, I most] h = some (Lq (Ai t most), h) := by
 unfold Ai
 by_cases c1:most<0
 · rw[if_pos (.inl c1)]
   refine vP (fn:=AP.f7) (h2:=h.eO) (e:=[(4,.str ⟨#[]⟩),(5,I 0),(6,I 700)]) rfl rfl rfl ?_ rfl rfl
   simp only[I]at *
   simp only[AP.f7,go_sem,aaW c1]
 by_cases c2:8192<most
 · rw[if_pos (.inr c2)]
   refine vP (fn:=AP.f7) (h2:=h.eO) (e:=[(4,.str ⟨#[]⟩),(5,I 0),(6,I 700)]) rfl rfl rfl ?_ rfl rfl
   simp only[I]at *
   simp only[AP.f7,go_sem,aaU c1,aaW c2]
 rw[if_neg (by omega)]
 obtain⟨h1,hh1⟩:∃g,g=h.eO.alloc [.str t,I 0]:=⟨_,rfl⟩
 obtain⟨h2,hh2⟩:∃g,g=h1.alloc [.aG h.next 0,.aS,I most,I 0]:=⟨_,rfl⟩
 have of1:=Y8 h.eO t
 rw[←hh1]at of1
 have n1:h1.next=h.next+1:=by rw[hh1];simp
 have st:St ⟨h.next+1,h.next,t,most⟩ ⟨0,[],0⟩ h2 .aS:=by
  refine⟨?_, ?_,.inl ⟨rfl,rfl⟩,by simp, ?_, ?_,by simp [AV.id?],by simp [AV.id?], ?_,hs,by simp,by simp;omega,by show most≤900000;omega⟩
  · rw[hh2,H.aZ,if_pos n1.symm]
  · rw[hh2,H.aZ,if_neg (by show h.next≠h1.next;omega),hh1,H.aZ,if_pos (show h.next=h.eO.next from rfl)];rfl
  · rw[hh2,hh1];simp
  · rw[hh2,hh1];simp
  · rw[hh2,hh1];simp;omega
 obtain⟨e',h3,ov,S,q1,q2,q3,q4,q5⟩:=Ib (8* t.size+1) ⟨0,[],0⟩ h2 .aS st rfl (by show 8* t.size<0+(8* t.size+1);omega)
 have gs:=q3.gs
 have bx:∀e:Env,look e 18=.agg [.aG h.next 0,.aS,.int .i64 most,.int .i64 0]→bg e (.box 4 (.t 18))=some ([.aG h.next 0,.aS,.int .i64 most,.int .i64 0],fun i=>.aG i 0):=by
  intro e q;simp only[bg,ur,q];rfl
 have fl:eP [.cT,.aS,.int .i64 0,.int .i64 0] [(0,1,.aG h.next 0),(2,1,.int .i64 most)]=some [.aG h.next 0,.aS,.int .i64 most,.int .i64 0]:=rfl
 have hn:h.eO.next=h.next:=rfl
 dsimp only at q5
 cases hi:zR t most (8* t.size+1) 0 []with
 | error k =>
   rw[hi]at q5
   have c3:(S.e !=0)=true:=vY (by rw[q5.1];exact q5.2)
   have hk:S.e=k:=q5.1
   refine vP (fn:=AP.f7) (h2:=h3) (e:=[(4,.str ⟨#[]⟩),(5,I 0),(6,I k)]) rfl rfl rfl ?_ rfl rfl
   simp only[I]at *
   simp only[AP.f7,go_sem,aaU c1,aaU c2,of1,hn,aa5,abn,fl]
   rw[bx _ rfl]
   rw[hk]at gs c3
   simp only[go_sem,←hh2,n1,uo,q1,q2,gs,c3]
 | ok z =>
   obtain⟨p,o⟩:=z
   rw[hi]at q5
   simp only[Fin]at q5
   have c3:(S.e !=0)=false:=vX (by rw[q5])
   obtain⟨h4,a1,a2,a3⟩:=q3.align
   have gs4:=a2.gs
   have gr4:=a2.gr
   have at4:=YQ h4 h.next t _ gr4
   have hb:=JF a2.own
   subst q5
   dsimp only at gs4 gr4 at4 hb a2 gs c3
   have hle:=a2.zl
   dsimp only at hle
   have qd:bC .quo (.int .i64 (((p+7)/8* 8:Nat):Int)) (.int .i64 8)=some (.int .i64 (((p+7)/8:Nat):Int)):=by
    rw[uc _ _ _ (by omega),show(8:Int)=((8:Nat):Int)from rfl,zN,Nat.mul_div_cancel _ (by omega),xy (by omega)]
   refine vP (fn:=AP.f7) (h2:=h4) (e:=[(4,.str (bytesOf o)),(5,I ((p+7)/8:Nat)),(6,I 0)]) rfl rfl rfl ?_ rfl rfl
   generalize (p+7)/8* 8=P8 at *
   generalize (p+7)/8=P at *
   simp only[I]at *
   simp only[AP.f7,go_sem,aaU c1,aaU c2,of1,hn,aa5,abn,fl]
   rw[bx _ rfl]
   simp only[go_sem,←hh2,n1,uo,q1,q2,gs,c3,a1]
   rw[GU (e':=[(6,.int .i64 0),(5,.int .i64 P),(4,.str (bytesOf o)),(55,.int .i64 P),(54,.int .i64 P8),(53,.aG h.next 0),(52,.aG (h.next+1) 0),(51,.aG (h.next+1) 0),(50,.aG (h.next+1) 0),(49,.str (bytesOf o)),(48,ov),(47,.aG (h.next+1) 1),(46,.aG (h.next+1) 0),(45,.aG (h.next+1) 0),(7,.aG (h.next+1) 0)]) (h':=h4) (gs:=[h4,h4])]
   · simp only[go_sem]
   · simp only[Bz,DZ,DW,D4,D3,cq.aR,go_sem,gs4,hb,at4,qd]
   · refine BC (fun k hk=> ?_) (BC (fun k hk=> ?_) rfl)
     · obtain rfl:k=1:=by simpa using hk
       refine BB (o:=⟨some 48,.load false 1 (.t 47),none⟩) (g:=h4) (h':=h4) (d:=48) (u:=ov) rfl rfl rfl rfl ?_ ?_
       · simp only[ai,go_sem,gs4]
       · simp only[go_sem]
         rcases a2.own with ⟨rfl,_⟩|⟨id,rfl,_⟩
         · rfl
         · exact C7 _ _ _ _
     · obtain rfl:k=1:=by simpa using hk
       refine BB (o:=⟨some 49,.mu (.t 48),none⟩) (g:=h4) (h':=h4) (d:=49) (u:=.str (bytesOf o)) rfl rfl rfl rfl ?_ ?_
       · simp only[ai,go_sem,hb]
       · simp only[go_sem,Er]
theorem Ac (a:ByteArray):a.toList=a.data.toList:=by
 have key:∀(n i:Nat) (r:List UInt8),a.size-i=n→ByteArray.toList.loop a i r=r.reverse++a.data.toList.drop i:=by
  intro n
  induction n with
  | zero =>
    intro i r h
    unfold ByteArray.toList.loop
    rw[if_neg (by omega),List.drop_eq_nil_of_le (by show a.data.toList.length≤i;have:a.data.toList.length=a.size:=rfl;omega)];simp
  | succ n ih =>
    intro i r h
    unfold ByteArray.toList.loop
    have hi:i<a.data.toList.length:=by show i<a.size;omega
    rw[if_pos (by omega),ih (i+1) _ (by omega),List.drop_eq_getElem_cons hi]
    have hi':i<a.data.size:=hi
    simp [ByteArray.get!,getElem!_pos a.data i hi']
 unfold ByteArray.toList
 rw[key a.size 0 [] (by omega)];simp
theorem AR (a b:ByteArray):bC .eql (.str a) (.str b)=some (.bool (a.data.toList==b.data.toList)):=by
 simp only[bC,kM,Ac]
theorem BV (a b:ByteArray):bC .neq (.str a) (.str b)=some (.bool (!(a.data.toList==b.data.toList))):=by
 simp only[bC,kM,Ac]
theorem Na (h:H) (n:Int):aU AP.A 9 [I n] h=some (I n,h):=by
 refine vP (fn:=AP.f9) (h2:=h.eO) (e:=[(2,I n)]) rfl rfl rfl ?_ rfl rfl
 simp only[I]at *
 simp only[AP.f9,go_sem]
def Cz (out:List Nat) (i:Nat) (b:Nat):List Nat:=
 let o:=if i%8=0 then out++[0]else out
 o.set (i/8) (o.getD (i/8) 0|||b* 2^(i%8))
def Ng:List Nat→Nat→List Nat→List Nat
 |[],_,out=>out
 |b::r,i,out=>Ng r (i+1) (Cz out i b)
theorem Iy {out:List Nat} {i b:Nat} (h:out.length=(i+7)/8):(Cz out i b).length=(i+1+7)/8:=by
 unfold Cz
 dsimp only
 rw[abz]
 split
 · rw[xu,h];simp;omega
 · rw[h];omega
theorem oU.set {h:H} {v:AV} {cs:List AV} (o:oU h v cs) {i:Nat} (hi:i<cs.length) (x:AV):∃id,v=.aH id 0 cs.length 1∧h.get id=some cs∧h.floor≤id∧oU (h.set id (cs.set i x)) v (cs.set i x):=by
 rcases o with ⟨rfl,rfl⟩|⟨id,rfl,h1,h2,h3⟩
 · simp at hi
 · exact⟨id,rfl,h1,h2,.inr ⟨id,by simp,by rw[H.dY,if_pos rfl,h1];rfl,by simpa using h2,by intro e;apply h3;have:=abt List.length e;simpa using this⟩⟩
theorem HD {x y:ByteArray} (h:x.size+y.size≤9223372036854775807):bC .add (.str x) (.str y)=some (.str (x++y)):=by
 simp only[bC,kM,if_pos h]
structure Z6 (a t:ByteArray):Prop where
 sz:a.size≤t.size
 bit:∀i,i<8* a.size→yN a i=yN t i
section
variable {a t:ByteArray} (h:Z6 a t)
include h
end
variable {t:ByteArray} {most most':Int}
theorem N9 {s:ByteArray} {n:Nat} (hn:n≤s.size):pd (.str s) none (some (I n))=some (.str (s.extract 0 n)):=by
 have:lD (I n) s.size=some n:=IM hn
 simp [pd,aD,this]
theorem yq (l:List Nat):(bytesOf l).size=l.length:=by
 show(l.map UInt8.ofNat).toArray.size=_
 simp
theorem Lj (h:H) (r:Nat) (s:ByteArray) (R:List AV) (p x i n:Nat) (hg:h.get r=some (.str s::I p::R)) (hf:h.floor≤r) (hp:p<8* s.size) (hs:s.size<1125899906842624) (hx:x<2^i) (hi:i<n) (hn:n≤16):
 aO (aU AP.A) bH AP.f46L0 [(0,.aG r 0),(1,I n),(6,I x),(7,I i)] h=some (.normal,[(0,.aG r 0),(1,I n),(6,I (x+yN s p* 2^i:Nat)),(7,I (i+1:Nat))],h.set r (.str s::I (p+1:Nat)::R)):=by
 obtain⟨b,hb⟩:=JK (s:=s) (i:=p/8) (by omega)
 have hb8:b.toNat<256:=b.toNat_lt
 have hbit:yN s p=b.toNat/2^(p%8)%2:=by simp [yN,hb]
 have t1:bC .quo (.int .i64 (p:Int)) (.int .i64 8)=some (.int .i64 ((p/8:Nat):Int)):=by
  rw[uc _ _ _ (by omega),show(8:Int)=((8:Nat):Int)from rfl,zN,xy (by omega)]
 have t2:bC .rem (.int .i64 (p:Int)) (.int .i64 8)=some (.int .i64 ((p%8:Nat):Int)):=by
  rw[ud _ _ _ (by omega),show(8:Int)=((8:Nat):Int)from rfl,BD]
 have a1:nH (.str s) (I (p/8:Nat))=some (.int .u8 b.toNat):=by
  simp only[nH,lJ (show p/8<s.size by omega),wP,hb]
 have s1:qL .shr .u8 (b.toNat:Int) ((p%8:Nat):Int)=some (.int .u8 ((b.toNat/2^(p%8):Nat):Int)):=Nz (by omega)
 have hlt:b.toNat/2^(p%8)<256:=Nat.lt_of_le_of_lt (Nat.div_le_self _ _) hb8
 have n1:bits .and .u8 ((b.toNat/2^(p%8):Nat):Int) 1=((yN s p:Nat):Int):=by
  have:=F8 (b:=1) hlt (by omega)
  rw[Nat.and_one_is_mod]at this
  rw[hbit];exact this
 have hbl:=EN s p
 have w2:IntKind.wrap .i64 ((yN s p:Nat):Int)=((yN s p:Nat):Int):=xy (by omega)
 have hpow:(2:Nat)^i≤2^16:=abb (by omega) (by omega)
 have hmul:yN s p* 2^i≤2^i:=by
  have:=wW (2^i) hbl;simpa using this
 have s2:qL .shl .i64 ((yN s p:Nat):Int) (i:Int)=some (.int .i64 ((yN s p* 2^i:Nat):Int)):=AO (by omega) (by omega)
 have o1:bits .or .i64 (x:Int) ((yN s p* 2^i:Nat):Int)=((x+yN s p* 2^i:Nat):Int):=by
  rw[Es (by omega) (by omega),Jx hx]
 have w3:IntKind.wrap .i64 ((p:Int)+1)=((p+1:Nat):Int):=xy (n:=p+1) (by omega)
 have w4:IntKind.wrap .i64 ((i:Int)+1)=((i+1:Nat):Int):=xy (n:=i+1) (by omega)
 have c1:(i:Int)<n:=by omega
 have hst:vR h r 1 1 [I (p+1:Nat)] (some (.str s::I p::R))=some (h.set r (.str s::I (p+1:Nat)::R)):=wx hf (by simp) rfl
 generalize hB:yN s p=B at *
 generalize hD:b.toNat/2^(p%8)=D at *
 generalize hE:p/8=E at *
 generalize hF:p%8=F at *
 generalize hO:x+B* 2^i=O at *
 generalize hM:B* 2^i=W at *
 simp only[I]at *
 simp only[AP.f46L0,go_sem,aaW c1,hg,t1,a1,t2,s1,n1,w2,s2,o1,w3,hst,w4]
theorem Gk (r:Nat) (s:ByteArray) (R:List AV) (p n:Nat) (hs:s.size<1125899906842624) (hp:p+n≤8* s.size) (hn:n≤16):∀(k i:Nat) (h:H),i+k=n→h.get r=some (.str s::I (p+i:Nat)::R)→h.floor≤r→
 ∃e',Lp AP.A [0,1,6,7] AP.f46L0 [(0,.aG r 0),(1,I n),(6,I (xJ s p i:Nat)),(7,I i)] h=some (.exit 0,e',h.set r (.str s::I (p+n:Nat)::R))∧look e' 6=I (xJ s p n:Nat)
 | 0, i, h, hk, hg, hf => by
   obtain rfl:i=n:=by omega
   refine⟨[(0,.aG r 0),(1,I i),(6,I (xJ s p i:Nat)),(7,I i),(29,.bool false)],u6 ?_,rfl⟩
   rw[H.ku hg]
   have c1:¬(i:Int)<i:=by omega
   simp only[I]at *
   simp only[AP.f46L0,go_sem,aaU c1]
 | k + 1, i, h, hk, hg, hf => by
   have st:=Lj h r s R (p+i) (xJ s p i) i n hg hf (by omega) hs (yt s p i) (by omega) hn
   obtain⟨e',k1,k2⟩:=Gk r s R p n hs hp hn k (i+1) (h.set r (.str s::I (p+i+1:Nat)::R)) (by omega) (by rw[H.dY,if_pos rfl,hg];rfl) (by simpa using hf)
   rw[H.set_set]at k1
   exact⟨e',u9 st k1,k2⟩
theorem Ox (h:H) (r:Nat) (s:ByteArray) (R:List AV) (p n:Nat) (hg:h.get r=some (.str s::I p::R)) (hf:h.floor≤r) (hs:s.size<1125899906842624) (hp:p+n≤8* s.size) (hn:n≤16):
 aU AP.A 46 [.aG r 0,I n] h=some (.bW [I (xJ s p n:Nat),I 0],h.set r (.str s::I (p+n:Nat)::R)):=by
 obtain⟨e',k1,k2⟩:=Gk r s R p n hs hp hn n 0 h (by omega) hg hf
 have k1':Lp AP.A [0,1,6,7] AP.f46L0 [(0,.aG r 0),(1,I n),(6,I 0),(7,I 0)] h=some (.exit 0,e',h.set r (.str s::I (p+n:Nat)::R)):=k1
 clear k1
 have c0:¬(n:Int)<0:=by omega
 have c1:¬(16:Int)<n:=by omega
 have w1:IntKind.wrap .i64 (8* (s.size:Int))=((8* s.size:Nat):Int):=xy (n:=8* s.size) (by omega)
 have w2:IntKind.wrap .i64 (((8* s.size:Nat):Int)-p)=((8* s.size-p:Nat):Int):=by
  rw[←Int.ofNat_sub (by omega)];exact xy (by omega)
 have c2:¬((8* s.size-p:Nat):Int)<n:=by omega
 refine vv (fn:=AP.f46) (e:=[(4,I (xJ s p n:Nat)),(5,I 0)]) rfl rfl rfl ?_ rfl
 generalize hM:8* s.size-p=W at *
 generalize hM2:8* s.size=W2 at *
 simp only[I]at *
 simp only[AP.f46,go_sem,aaU c0,aaU c1,hg,w1,w2,aaU c2,uo,k1',k2]
theorem MM (h:H) (r:Nat) (s:ByteArray) (R:List AV) (p n:Nat) (hg:h.get r=some (.str s::I p::R)) (hs:s.size<1125899906842624) (hp0:p≤8* s.size) (hp:8* s.size<p+n) (hn:n≤16):
 aU AP.A 46 [.aG r 0,I n] h=some (.bW [I 0,I 101],h):=by
 have c0:¬(n:Int)<0:=by omega
 have c1:¬(16:Int)<n:=by omega
 have w1:IntKind.wrap .i64 (8* (s.size:Int))=((8* s.size:Nat):Int):=xy (n:=8* s.size) (by omega)
 have w2:IntKind.wrap .i64 (((8* s.size:Nat):Int)-p)=((8* s.size-p:Nat):Int):=by
  rw[←Int.ofNat_sub (by omega)];exact xy (by omega)
 have c2:((8* s.size-p:Nat):Int)<n:=by omega
 refine vv (fn:=AP.f46) (e:=[(4,I 0),(5,I 101)]) rfl rfl rfl ?_ rfl
 generalize hM:8* s.size-p=W at *
 generalize hM2:8* s.size=W2 at *
 simp only[I]at *
 simp only[AP.f46,go_sem,aaU c0,aaU c1,hg,w1,w2,aaW c2]
structure FC where
 f:Nat
 text:ByteArray
 most:Int
structure Ft (c:FC) (S:SS) (h:H) (ov:AV):Prop where
 gf:h.get c.f=some [.str c.text,I S.at_,ov,I c.most,I S.e]
 own:oU h ov (Bl S.out)
 ff:h.floor≤c.f
 of:ov.id?≠some c.f
 nx:h.floor≤h.next
 sz:c.text.size<1125899906842624
 zl:S.at_≤8* c.text.size
 ol:(S.out.length:Int)≤c.most
 ml:c.most≤900000
structure FF (c:FC) (h:H) (ov:AV) (h':H) (ov':AV):Prop where
 fl:h'.floor=h.floor
 nx:h.next≤h'.next
 Ek:∀id,id<h.next→id≠c.f→ov.id?≠some id→h'.get id=h.get id
 nb:∀i,ov'.id?=some i→ov.id?=some i∨h.next≤i
theorem FF.refl (c:FC) (h:H) (ov:AV):FF c h ov h ov:=⟨rfl,wU _,fun _ _ _ _=>rfl,fun _ q=>.inl q⟩
theorem FF.trans {c:FC} {h1 h2 h3:H} {o1 o2 o3:AV} (a:FF c h1 o1 h2 o2) (b:FF c h2 o2 h3 o3):FF c h1 o1 h3 o3:=by
 refine⟨b.fl.trans a.fl,xq a.nx b.nx,fun id h4 h5 h7=> ?_,fun i hi=> ?_⟩
 · rw[b.Ek id (Nat.lt_of_lt_of_le h4 a.nx) h5 (fun q=> ?_),a.Ek id h4 h5 h7]
   rcases a.nb id q with q|q
   · exact h7 q
   · omega
 · rcases b.nb i hi with q|q
   · exact a.nb i q
   · exact .inr (xq a.nx q)
theorem Ft.Hv {c:FC} {S:SS} {h:H} {ov:AV} (st:Ft c S h ov) {p:Nat} (hp:p≤8* c.text.size) (e:Int):Ft c ⟨p,S.out,e⟩ (h.set c.f [.str c.text,I p,ov,I c.most,I e]) ov∧FF c h ov (h.set c.f [.str c.text,I p,ov,I c.most,I e]) ov:=by
 refine⟨⟨by rw[H.dY,if_pos rfl,st.gf];rfl,st.own.mono (by simp) fun i hi=> ?_,by simpa using st.ff,st.of,by simpa using st.nx,st.sz,hp,st.ol,st.ml⟩,⟨by simp,by simp,fun id h1 h2 h4=>by rw[H.dY,if_neg h2],fun _ q=>.inl q⟩⟩
 rw[H.dY,if_neg];intro (e:i=c.f);exact st.of (e ▸ hi)
theorem Ft.yR {c:FC} {S:SS} {h h':H} {ov:AV} (st:Ft c S h ov) (hf:h'.floor=h.floor) (hn:h.next≤h'.next) (hg:∀i,i=c.f∨ov.id?=some i→h'.get i=h.get i):Ft c S h' ov:=
 ⟨by rw[hg _ (.inl rfl)];exact st.gf,st.own.mono hf fun i hi=>hg i (.inr hi),by rw[hf];exact st.ff,st.of,by rw[hf];exact xq st.nx hn,st.sz,st.zl,st.ol,st.ml⟩
theorem Ft.lt {c:FC} {S:SS} {h:H} {ov:AV} (st:Ft c S h ov) {i:Nat} (hi:i=c.f∨ov.id?=some i):i<h.next:=by
 rcases hi with rfl|hi
 · exact h.lt _ _ st.gf
 · exact st.own.lt hi
theorem Ft.alloc {c:FC} {S:SS} {h:H} {ov:AV} (st:Ft c S h ov) (cs:List AV):Ft c S (h.alloc cs) ov∧FF c h ov (h.alloc cs) ov:=by
 refine⟨st.yR (by simp) (by simp) fun i hi=> ?_,⟨by simp,by simp,fun id h1 _ _=> ?_,fun _ q=>.inl q⟩⟩
 · have:=st.lt hi;rw[H.aZ,if_neg (by omega)]
 · rw[H.aZ,if_neg (by omega)]
def yb (c:FC) (n:Nat) (S:SS):Nat×SS:=if S.at_+n≤8* c.text.size then(xJ c.text S.at_ n,{S with at_:=S.at_+n})else(0,xM 700 S)
theorem Oy (c:SC) (d:FC) (ht:c.text=d.text) (n:Nat) (S:SS):xK c n S=yb d n S:=by unfold xK yb;rw[ht]
theorem zV {c:FC} {S:SS} {h:H} {ov:AV} (st:Ft c S h ov) (n:Nat) (m:Int) (hm:m=n) (hn:n≤16):∃h',aU AP.A 18 [.aG c.f 0,I m] h=some (I ((yb c n S).1:Nat),h')∧Ft c (yb c n S).2 h' ov∧FF c h ov h' ov:=by
 subst hm
 have gf:=st.gf
 by_cases hp:S.at_+n≤8* c.text.size
 · have g:=Ox h c.f c.text _ S.at_ n st.gf st.ff st.sz hp hn
   refine⟨_, ?_,by rw[yb,if_pos hp];exact(st.Hv hp S.e).1,(st.Hv hp S.e).2⟩
   rw[yb,if_pos hp]
   have c0:((0:Int) !=0)=false:=rfl
   refine vv (fn:=AP.f18) (e:=[(4,I (xJ c.text S.at_ n:Nat))]) rfl rfl rfl ?_ rfl
   simp only[I]at *
   simp only[AP.f18,go_sem,g,c0]
 · have g:=MM h c.f c.text _ S.at_ n st.gf st.sz st.zl (by omega) hn
   have c0:((101:Int) !=0)=true:=rfl
   rw[yb,if_neg hp]
   by_cases he:S.e=0
   · have c1:=vW he
     have hst:vR h c.f 4 1 [I 700] (some [.str c.text,I S.at_,ov,I c.most,I S.e])=some (h.set c.f [.str c.text,I S.at_,ov,I c.most,I 700]):=wx st.ff (by simp) rfl
     refine⟨_, ?_,by rw[xM,if_pos he];exact(st.Hv st.zl 700).1,(st.Hv st.zl 700).2⟩
     refine vv (fn:=AP.f18) (e:=[(4,I 0)]) rfl rfl rfl ?_ rfl
     simp only[I]at *
     simp only[AP.f18,go_sem,g,c0,gf,c1,hst]
   · have c1:=vV he
     refine⟨h, ?_,by rw[xM,if_neg he];exact st,FF.refl _ _ _⟩
     refine vv (fn:=AP.f18) (e:=[(4,I 0)]) rfl rfl rfl ?_ rfl
     simp only[I]at *
     simp only[AP.f18,go_sem,g,c0,gf,c1]
theorem Ap {c:FC} {S:SS} {h:H} {ov:AV} (st:Ft c S h ov):∃h',aU AP.A 25 [.aG c.f 0] h=some (.bW [],h')∧Ft c (xM 700 S) h' ov∧FF c h ov h' ov:=by
 have gf:=st.gf
 by_cases he:S.e=0
 · have c1:=vW he
   have hst:vR h c.f 4 1 [I 700] (some [.str c.text,I S.at_,ov,I c.most,I S.e])=some (h.set c.f [.str c.text,I S.at_,ov,I c.most,I 700]):=wx st.ff (by simp) rfl
   refine⟨_, ?_,by rw[xM,if_pos he];exact(st.Hv st.zl 700).1,(st.Hv st.zl 700).2⟩
   refine yE (fn:=AP.f25) (e:=[]) rfl rfl rfl ?_ rfl
   simp only[I]at *
   simp only[AP.f25,go_sem,gf,c1,hst]
 · have c1:=vV he
   refine⟨h, ?_,by rw[xM,if_neg he];exact st,FF.refl _ _ _⟩
   refine yE (fn:=AP.f25) (e:=[]) rfl rfl rfl ?_ rfl
   simp only[I]at *
   simp only[AP.f25,go_sem,gf,c1]
theorem MF {c:FC} {S:SS} {h:H} {ov:AV} (st:Ft c S h ov):∃h',aU AP.A 47 [.aG c.f 0] h=some (.bW [],h')∧Ft c {S with at_:=(S.at_+7)/8* 8} h' ov∧FF c h ov h' ov:=by
 have gf:=st.gf
 have hle:=st.zl
 have hsz:=st.sz
 have w2:IntKind.wrap .i64 ((S.at_:Int)+7)=((S.at_+7:Nat):Int):=xy (n:=S.at_+7) (by omega)
 have w3:IntKind.wrap .i64 (((S.at_+7:Nat):Int).tdiv 8)=(((S.at_+7)/8:Nat):Int):=by
  rw[show(8:Int)=((8:Nat):Int)from rfl,zN];exact xy (by omega)
 have w4:IntKind.wrap .i64 ((((S.at_+7)/8:Nat):Int)* 8)=(((S.at_+7)/8* 8:Nat):Int):=by
  rw[show(((S.at_+7)/8:Nat):Int)* 8=(((S.at_+7)/8* 8:Nat):Int)by omega];exact xy (by omega)
 have q:bC .quo (.int .i64 ((S.at_+7:Nat):Int)) (.int .i64 8)=some (.int .i64 (((S.at_+7)/8:Nat):Int)):=by rw[uc _ _ _ (by omega),w3]
 have hst:vR h c.f 1 1 [I ((S.at_+7)/8* 8:Nat)] (some [.str c.text,I S.at_,ov,I c.most,I S.e])=some (h.set c.f [.str c.text,I ((S.at_+7)/8* 8:Nat),ov,I c.most,I S.e]):=wx st.ff (by simp) rfl
 have hp:(S.at_+7)/8* 8≤8* c.text.size:=by omega
 refine⟨_, ?_,(st.Hv hp S.e).1,(st.Hv hp S.e).2⟩
 refine yE (fn:=AP.f47) (e:=[]) rfl rfl rfl ?_ rfl
 generalize (S.at_+7)/8* 8=P8 at *
 generalize (S.at_+7)/8=P at *
 generalize S.at_+7=P7 at *
 simp only[I]at *
 simp only[AP.f47,go_sem,gf,w2,q,w4,hst]
theorem Jr {c : FC} {S : SS} {h : H} {ov : AV} (st : Ft c S h ov) (he : S.e = 0) (b : Nat) : ∃ h' ov' S', aU AP.A 48 [.aG c.f 0, .int .u8 b] h = some (.bW [], h') ∧ Ft c S' h' ov' ∧ FF c h ov h' ov' ∧ S' = if c.most ≤ S.out.length then { S with e := 701 } else ⟨S.at_, S.out ++ [b], 0⟩ := by
 have gf:=st.gf
 have hol:=st.ol
 have hml:=st.ml
 have ln:=st.own.len
 rw[zS]at ln
 have c1:=vW he
 by_cases hm:c.most≤S.out.length
 · rw[if_pos hm]
   have hst:vR h c.f 4 1 [I 701] (some [.str c.text,I S.at_,ov,I c.most,I S.e])=some (h.set c.f [.str c.text,I S.at_,ov,I c.most,I 701]):=wx st.ff (by simp) rfl
   have s1:=st.Hv st.zl 701
   have gf1:=s1.1.gf
   refine⟨_,ov,_, ?_,s1.1,s1.2,rfl⟩
   refine yE (fn:=AP.f48) (e:=[]) rfl rfl rfl ?_ rfl
   simp only[I]at *
   simp only[AP.f48,go_sem,gf,c1,ln,aaW hm,hst,gf1]
 · rw [if_neg hm]
   have hfl:c.f<h.next:=h.lt _ _ st.gf
   obtain⟨h1,eh1⟩:∃g,g=h.alloc [.int .u8 b]:=⟨_,rfl⟩
   have hlo1:∀i,i≠h.next→h1.get i=h.get i:=fun i q=>by rw[eh1,H.aZ,if_neg q]
   have hfl1:h1.floor=h.floor:=by rw[eh1];simp
   have hnx1:h1.next=h.next+1:=by rw[eh1];simp
   have ho1:oU h1 ov (Bl S.out):=st.own.mono hfl1 fun i hi=>hlo1 i (by have:=st.own.lt hi;omega)
   have hnxf:=st.nx
   obtain⟨v',h2,q1,q2,q3,q4,q5,q6⟩:=ho1.app (by omega) (z:=1) (.int .u8 b) rfl (by simp [roomy];omega)
   have src:aV h1 1 (.aH h.next 0 1 1)=some (1,[.int .u8 b]):=by simp [aV,eh1,H.aZ]
   have ap:mo h1 1 1 ov (.aH h.next 0 1 1)=some (v',h2):=by unfold mo;rw[src,wP];exact q1
   have gf1:h1.get c.f=some [.str c.text,I S.at_,ov,I c.most,I S.e]:=by rw[hlo1 _ (by omega)];exact st.gf
   have gf2:h2.get c.f=some [.str c.text,I S.at_,ov,I c.most,I S.e]:=by rw[q5 _ st.of (by omega)];exact gf1
   have ff2:h2.floor≤c.f:=by have:=st.ff;omega
   have hv':v'.cells=[v']∧v'.sc=true:=by
    rcases q2 with ⟨rfl,_⟩|⟨id,rfl,_⟩<;>exact⟨rfl,rfl⟩
   have hst:vR h2 c.f 2 1 v'.cells (some [.str c.text,I S.at_,ov,I c.most,I S.e])=some (h2.set c.f [.str c.text,I S.at_,v',I c.most,I S.e]):=by rw[hv'.1];exact wx ff2 (by simp) hv'.2
   have hby:Bl (S.out++[b])=Bl S.out++[.int .u8 b]:=by simp [Bl]
   have bt:∀e:Env,look e 34=.int .u8 b→bg e (.dj 1 1 [.int .u8 0] [(0,(.t 34))])=some ([.int .u8 b],fun i=>.aH i 0 1 1):=by
    intro e q;simp only[bg,aa5,abn,ur,q];rfl
   refine⟨h2.set c.f [.str c.text,I S.at_,v',I c.most,I S.e],v',_, ?_, ?_, ?_,rfl⟩
   · refine yE (fn:=AP.f48) (e:=[]) rfl rfl rfl ?_ rfl
     simp only[I]at *
     simp only[AP.f48,go_sem,gf,c1,ln,aaU hm]
     rw[bt _ rfl]
     simp only[go_sem,←eh1,ap,gf2,hst]
   · refine⟨by rw[H.dY,if_pos rfl,gf2,he];rfl, ?_,by simpa using ff2, ?_,by simp;omega,st.sz,st.zl,by simp;omega,st.ml⟩
     · rw[hby]
       refine q2.mono (by simp) fun i hi=> ?_
       rw[q6]at hi;cases hi
       rw[H.dY,if_neg (by omega)]
     · rw[q6];intro e;have:=wH e;omega
   · refine⟨by simp;omega,by simp;omega,fun id a1 a2 a4=> ?_,fun i hi=> ?_⟩
     · rw[H.dY,if_neg a2,q5 id a4 (by omega),hlo1 id (by omega)]
     · rw[q6]at hi;cases hi;right;omega
def flat (l:List Int):Nat→List Int
 |0=>[]
 |n+1=>flat l n++syms l (n+1)
def Nm (l:List Int):Nat→AV:=fun i=>if i<16 then I (Au l i)else FN (ints (flat l 15))
def xS (l:List Int):AV:=.aN (oV 17 (Nm l)) 0
theorem Cc (l:List Int):∀n,(flat l n).length≤n* l.length
 |0=>by simp [flat]
 | n + 1 => by
   rw[flat,xu,xk,Nat.one_mul]
   have:=Cc l n
   have:=Ck l (n+1)
   omega
structure VM (h0 h:H) (b:Nat) (D:Nat→AV) (k:Nat) (p S0:List Int):Prop where
 get:h.get b=some (oV 17 D)
 fl:h.floor=h0.next
 fb:h0.next≤b
 nx:h.floor≤h.next
 low:∀id,id<h0.next→h.get id=h0.get id
 ck:D k=I (Au p k)
 own:oU h (D 16) (ints (S0++syms p k))
 nb:(D 16).id?≠some b
theorem G0 (h0 : H) (b : Nat) (x : AV) (l : List Int) (hl : l.length < 1000) (hx : Rd h0 x (ints l)) (k : Nat) (hk1 : 1 ≤ k) (hk : k ≤ 15) (S0 : List Int) (hS0 : S0.length ≤ 15000) : ∀ (q p : List Int) (D : Nat → AV) (h : H), l = p ++ q → VM h0 h b D k p S0 →
 ∃e' h' D',Lp AP.A [0,3,4,5] AP.f21L0 [(0,x),(3,.aG b 0),(4,I k),(5,I p.length)] h=some (.exit 2,e',h')∧look e' 0=x∧look e' 3=.aG b 0∧look e' 4=I k∧VM h0 h' b D' k l S0∧∀i,i<16→i≠k→D' i=D i
 | [], p, D, h, hp, bo => by
   rw[aa2]at hp;subst hp
   refine⟨[(0,x),(3,.aG b 0),(4,I k),(5,I l.length),(15,.bool false)],h,D,u6 ?_,rfl,rfl,rfl,bo,fun _ _ _=>rfl⟩
   have ln:=hx.len
   rw[rk]at ln
   have c1:¬(l.length:Int)<(l.length:Int):=by omega
   simp only[I]at *
   simp only[AP.f21L0,go_sem,ln,aaU c1]
 | y :: q, p, D, h, hp, bo => by
   have ln:=hx.len
   rw[rk]at ln
   have hlen:l.length=p.length+(q.length+1):=by rw[hp];simp
   have c1:(p.length:Int)<(l.length:Int):=by omega
   have hv:(ints l)[p.length]?=some (I y):=uM (by rw[hp];simp)
   obtain⟨ad,p1,p2⟩:=hx.elem hv
   have hlow:∀id c,h0.get id=some c→h.get id=some c:=fun id c q=>by rw[bo.low id (h0.lt id c q)];exact q
   have p3:=p2 h hlow
   have w1:IntKind.wrap .i64 ((p.length:Int)+1)=(((p++[y]).length:Nat):Int):=by
    rw[xu];exact xy (n:=p.length+1) (by omega)
   have hcn:=Da p y k
   have hsn:=Eb p y k
   by_cases hy:y=(k:Int)
   · have cb := vW hy
     have hcl:=B8 p k
     rw[if_pos ⟨by omega,hy⟩]at hcn hsn
     have w2:IntKind.wrap .i64 ((Au p k:Int)+1)=((Au p k+1:Nat):Int):=xy (n:=Au p k+1) (by omega)
     have a1:dC (I k) 16=some k:=lJ (by omega)
     have g1:(oV 17 D)[k]?=some (I (Au p k)):=by rw[gX (by omega),bo.ck]
     have hfb:h.floor≤b:=by rw[bo.fl];exact bo.fb
     obtain⟨D1,eD1⟩:∃E,E=vT D k (I (Au p k+1:Nat)):=⟨_,rfl⟩
     have FO:vR h b k 1 [I (Au p k+1:Nat)] (some (oV 17 D))=some (h.set b (oV 17 D1)):=by
      rw[wx hfb (by rw[tL];omega) rfl,vB (by omega),←eD1]
     obtain⟨h1,eh1⟩:∃g,g=h.set b (oV 17 D1):=⟨_,rfl⟩
     have hbn:b<h.next:=h.lt _ _ bo.get
     have g2:h1.get b=some (oV 17 D1):=by rw[eh1,H.dY,if_pos rfl,bo.get];rfl
     have d16:D1 16=D 16:=by rw[eD1,vT,if_neg (by omega)]
     have g3:(oV 17 D1)[16]?=some (D 16):=by rw[gX (by omega),d16]
     obtain⟨h2,eh2⟩:∃g,g=h1.alloc [I p.length]:=⟨_,rfl⟩
     have hn1:h1.next=h.next:=by rw[eh1];simp
     have hlo2:∀i,i≠b→i≠h.next→h2.get i=h.get i:=fun i q1 q2=>by rw[eh2,H.aZ,hn1,if_neg q2,eh1,H.dY,if_neg q1]
     have hfl2:h2.floor=h.floor:=by rw[eh2,eh1];simp
     have hnx2:h2.next=h.next+1:=by rw[eh2,eh1];simp
     have o2:oU h2 (D 16) (ints (S0++syms p k)):=bo.own.mono hfl2 fun i hi=>hlo2 i (fun e=>bo.nb (e ▸ hi)) (by have:=bo.own.lt hi;omega)
     have hsl:=Ck p k
     have hnxf:=bo.nx
     obtain⟨v',h3,q1,q2,q3,q4,q5,q6⟩:=o2.app (by omega) (z:=8) (I p.length) rfl (by simp [roomy];omega)
     have src:aV h2 1 (.aH h1.next 0 1 1)=some (1,[I p.length]):=by simp [aV,eh2,H.aZ]
     have ap:mo h2 1 8 (D 16) (.aH h1.next 0 1 1)=some (v',h3):=by unfold mo;rw[src,wP];exact q1
     have g4:h3.get b=some (oV 17 D1):=by
      rw[q5 b bo.nb (by omega),eh2,H.aZ,if_neg (by omega)];exact g2
     have hv':v'.cells=[v']∧v'.sc=true:=by
      rcases q2 with ⟨rfl,_⟩|⟨id,rfl,_⟩<;>exact⟨rfl,rfl⟩
     obtain⟨D2,eD2⟩:∃E,E=vT D1 16 v':=⟨_,rfl⟩
     have hfb3:h3.floor≤b:=by rw[q3,hfl2];exact hfb
     have st2:vR h3 b 16 1 v'.cells (some (oV 17 D1))=some (h3.set b (oV 17 D2)):=by
      rw[hv'.1,wx hfb3 (by rw[tL];omega) hv'.2,vB (by omega),←eD2]
     have bt:∀e:Env,look e 39=.int .i64 p.length→bg e (.dj 1 1 [.int .i64 0] [(0,.t 39)])=some ([.int .i64 p.length],fun i=>.aH i 0 1 1):=by
      intro e q;simp only[bg,aa5,abn,ur,q];rfl
     have step:aO (aU AP.A) bH AP.f21L0 (ay [(0,x),(3,.aG b 0),(4,I k),(5,I p.length)] [0,3,4,5]) h=some (.normal,[(0,x),(3,.aG b 0),(4,I k),(5,I (p++[y]).length)],h3.set b (oV 17 D2)):=by
      have gb:=bo.get
      generalize oV 17 D=T0 at *
      generalize oV 17 D1=T1 at *
      generalize oV 17 D2=T2 at *
      generalize (p++[y]).length=B at *
      generalize D 16=dv at *
      simp only[I]at *
      simp only[AP.f21L0,go_sem,ln,aaW c1,p1,p3,cb,a1,gb,g1,w2,FO,←eh1,g2,g3]
      rw[bt _ rfl]
      simp only[go_sem,←eh2,ap,g4,st2,w1]
     have bo2:VM h0 (h3.set b (oV 17 D2)) b D2 k (p++[y]) S0:=by
      refine⟨by rw[H.dY,if_pos rfl,g4];rfl,by simp [q3,hfl2,bo.fl],bo.fb,by simp;omega,fun id hid=> ?_, ?_, ?_, ?_⟩
      · have hd:id≠b:=by have:=bo.fb;omega
        rw[H.dY,if_neg hd]
        have hidn:id<h.next:=by have:=bo.fb;omega
        by_cases hq:(D 16).id?=some id
        · exfalso
          have hfloor:h.floor≤id:=by
           rcases bo.own with ⟨e,_⟩|⟨j,e,_,hj,_⟩
           · rw[e]at hq;cases hq
           · rw[e]at hq;obtain rfl:=wH hq;exact hj
          rw[bo.fl]at hfloor;omega
        · rw[q5 id hq (by omega),hlo2 id hd (by omega),bo.low id hid]
      · rw[eD2,vT,if_neg (by omega),eD1,vT,if_pos rfl,hcn]
      · rw[eD2,vT,if_pos rfl]
        have:ints (S0++syms (p++[y]) k)=ints (S0++syms p k)++[I p.length]:=by rw[hsn,←List.append_assoc,rj];rfl
        rw[this]
        refine q2.mono (by simp) fun i hi=> ?_
        rw[q6]at hi;cases hi
        rw[H.dY,if_neg (by omega)]
      · rw[eD2,vT,if_pos rfl,q6];intro e;have:=wH e;omega
     obtain⟨e',h',D',r1,r2,r3,r4,r5,r6⟩:=G0 h0 b x l hl hx k hk1 hk S0 hS0 q (p++[y]) D2 _ (by rw[hp];simp) bo2
     exact⟨e',h',D',u9 step r1,r2,r3,r4,r5,fun i h1 h2=>by rw[r6 i h1 h2,eD2,vT,if_neg (by omega),eD1,vT,if_neg h2]⟩
   · have cb:=vV hy
     rw[if_neg (fun q=>hy q.2),abl]at hcn
     rw[if_neg (fun q=>hy q.2),aa2]at hsn
     have step:aO (aU AP.A) bH AP.f21L0 (ay [(0,x),(3,.aG b 0),(4,I k),(5,I p.length)] [0,3,4,5]) h=some (.normal,[(0,x),(3,.aG b 0),(4,I k),(5,I (p++[y]).length)],h):=by
      generalize (p++[y]).length=B at *
      simp only[I]at *
      simp only[AP.f21L0,go_sem,ln,aaW c1,p1,p3,cb,w1]
     have bo2:VM h0 h b D k (p++[y]) S0:=⟨bo.get,bo.fl,bo.fb,bo.nx,bo.low,by rw[hcn];exact bo.ck,by rw[hsn];exact bo.own,bo.nb⟩
     obtain⟨e',h',D',r1,r2,r3,r4,r5,r6⟩:=G0 h0 b x l hl hx k hk1 hk S0 hS0 q (p++[y]) D _ (by rw[hp];simp) bo2
     exact⟨e',h',D',u9 step r1,r2,r3,r4,r5,r6⟩
theorem Oh (n:Nat):Au [] n=0:=by unfold Au;split<;>rfl
theorem NO (n:Nat):syms [] n=[]:=by unfold syms;split<;>rfl
theorem HO (h0 : H) (b : Nat) (x : AV) (l : List Int) (hl : l.length < 1000) (hx : Rd h0 x (ints l)) : ∀ (m k : Nat) (D : Nat → AV) (h : H), k + m = 16 → 1 ≤ k →
 h.get b=some (oV 17 D)→h.floor=h0.next→h0.next≤b→h.floor≤h.next→(∀id,id<h0.next→h.get id=h0.get id)→(∀i,i<k→D i=I (Au l i))→(∀i,k≤i→i<16→D i=I 0)→oU h (D 16) (ints (flat l (k-1)))→(D 16).id?≠some b→
 ∃e' h' D',Lp AP.A [0,3,4] AP.f21L1 [(0,x),(3,.aG b 0),(4,I k)] h=some (.exit 0,e',h')∧look e' 3=.aG b 0∧h'.get b=some (oV 17 D')∧h'.floor=h0.next∧(∀i,i<16→D' i=I (Au l i))∧oU h' (D' 16) (ints (flat l 15))
 | 0, k, D, h, hk, hk1, hg, hf, hfb, hnx, hlow, hc, hz, ho, hnb => by
   obtain rfl:k=16:=by omega
   refine⟨[(0,x),(3,.aG b 0),(4,I 16),(9,.bool false)],h,D,u6 ?_,rfl,hg,hf,hc,ho⟩
   have c1:¬(((16:Nat):Int)≤15):=by omega
   simp only[I]at *
   simp only[AP.f21L1,go_sem,aaU c1]
   rfl
 | m + 1, k, D, h, hk, hk1, hg, hf, hfb, hnx, hlow, hc, hz, ho, hnb => by
   have c1:(k:Int)≤15:=by omega
   have hfl:=Cc l (k-1)
   have hS0:(flat l (k-1)).length≤15000:=by
    have:(k-1)* l.length≤15* 1000:=Nat.mul_le_mul (by omega) (by omega)
    omega
   have bo:VM h0 h b D k [] (flat l (k-1)):=⟨hg,hf,hfb,hnx,hlow,by rw[Oh,hz k (wU _) (by omega)];rfl,by rw[NO,aa2];exact ho,hnb⟩
   obtain⟨e1,h1,D1,r1,r2,r3,r4,r5,r6⟩:=G0 h0 b x l hl hx k hk1 (by omega) _ hS0 l [] D h rfl bo
   have r1':Lp AP.A [0,3,4,5] AP.f21L0 [(0,x),(3,.aG b 0),(4,I k),(5,I 0)] h=some (.exit 2,e1,h1):=r1
   clear r1
   have w1:IntKind.wrap .i64 ((k:Int)+1)=((k+1:Nat):Int):=xy (n:=k+1) (by omega)
   have step:aO (aU AP.A) bH AP.f21L1 (ay [(0,x),(3,.aG b 0),(4,I k)] [0,3,4]) h=some (.normal,[(0,x),(3,.aG b 0),(4,I (k+1:Nat))],h1):=by
    simp only[I]at *
    simp only[AP.f21L1,go_sem,aaW c1,uo,r1',r2,r3,r4,w1]
   have hfk:flat l (k+1-1)=flat l (k-1)++syms l k:=by
    obtain⟨j,rfl⟩:∃j,k=j+1:=⟨k-1,by omega⟩
    rfl
   obtain⟨e',h',D',q1,q2,q3,q4,q5,q6⟩:=HO h0 b x l hl hx m (k+1) D1 h1 (by omega) (by omega) r5.get r5.fl r5.fb r5.nx r5.low
    (fun i hi=>by
      by_cases e:i=k
      · subst e;exact r5.ck
      · rw[r6 i (by omega) e];exact hc i (by omega))
    (fun i h1 h2=>by rw[r6 i h2 (by omega)];exact hz i (by omega) h2) (by rw[hfk];exact r5.own) r5.nb
   exact⟨e',h',D',u9 step q1,q2,q3,q4,q5,q6⟩
def YK:Nat→AV:=fun i=>if i<16 then I 0 else .aS
theorem B6 (h : H) (x : AV) (l : List Int) (hl : l.length < 1000) (hx : Rd h x (ints l)) : aU AP.A 21 [x] h = some (xS l, h) := by
 obtain⟨h1,eh1⟩:∃g,g=h.eO.alloc (oV 17 YK):=⟨_,rfl⟩
 have hg1:h1.get h.next=some (oV 17 YK):=by rw[eh1,H.aZ,if_pos (show h.next=h.eO.next from rfl)]
 obtain⟨e',h2,D,q1,q2,q3,q4,q5,q6⟩:=HO h h.next x l hl hx 15 1 YK h1 rfl (by omega) hg1 (by rw[eh1];simp) (wU _) (by rw[eh1];simp)
  (fun id hid=>by rw[eh1,H.aZ,if_neg (by show id≠h.next;omega)];rfl)
  (fun i hi => by obtain rfl : i = 0 := by omega
                  rfl)
  (fun i h1 h2=>by simp only[YK,if_pos h2]) (.inl ⟨rfl,rfl⟩) (by intro e;cases e)
 have q1':Lp AP.A [0,3,4] AP.f21L1 [(0,x),(3,.aG h.next 0),(4,I 1)] h1=some (.exit 0,e',h2):=q1
 clear q1
 refine vP (fn:=AP.f21) (h2:=h2) (e:=[(2,.aG h.next 0)]) (vs:=[.aG h.next 0]) rfl rfl rfl ?_ rfl ?_
 · unfold AP.f21
   refine wk (e1:=[(0,x)]) (h1:=h.eO) rfl ?_
   refine wk (e1:=[(0,x),(3,.aG h.next 0)]) (h1:=h1) (by rw[eh1];rfl) ?_
   simp only[I]at *
   simp only[go_sem,uo,q1',q2]
 · show snap h2.get h.next 16 true (.aG h.next 0)=_
   have hm:gH (snap h2.get h.next 15 false) (oV 17 D)=some (oV 17 (Nm l)):=by
    refine Kg 17 fun i hi=> ?_
    by_cases c1:i<16
    · rw[q5 i c1,Nm,if_pos c1];rfl
    · obtain rfl:i=16:=by omega
      rw[Nm,if_neg (by omega)]
      exact IU (n:=13) q6 (by rw[q4];exact wU _) (zG _ _ _ _ _)
   simp only[snap,if_neg (Nat.lt_irrefl _),q3,wP,hm,xS]
theorem H4 (l : List Int) {n i : Nat} (hi : i < (syms l (n + 1)).length) : ∀ m, n + 1 ≤ m → (flat l m)[(flat l n).length + i]? = (syms l (n + 1))[i]?
 |0,h=>by omega
 | m + 1, h => by
   rw[flat]
   by_cases e:n=m
   · subst e
     rw[abj (by omega),Nat.add_sub_cancel_left]
   · have ih:=H4 l hi m (by omega)
     have hlt:(flat l n).length+i<(flat l m).length:=by
      have:((syms l (n+1))[i]?).isSome=true:=by rw[abe hi];rfl
      rw[←ih]at this
      obtain⟨x,hx⟩:=Option.isSome_iff_exists.1 this
      exact(wO.1 hx).1
     rw[abf hlt];exact ih
theorem Li {c:FC} {S:SS} {h:H} {ov:AV} (st:Ft c S h ov) (b:AV) (v f a n:Int) (hs:n=16∨(n≤15∧S.e≠0)):
 ∃e',Lp AP.A [0,1,5,6,7,8] AP.f49L0 [(0,.aG c.f 0),(1,b),(5,I v),(6,I f),(7,I a),(8,I n)] h=some (.exit 0,e',h)∧look e' 0=.aG c.f 0:=by
 have gf:=st.gf
 refine⟨[(0,.aG c.f 0),(1,b),(5,I v),(6,I f),(7,I a),(8,I n),(17,.bool false)],u6 ?_,rfl⟩
 rcases hs with hn|⟨hn,he⟩
 · have c1:¬n≤15:=by omega
   simp only[I]at *
   simp only[AP.f49L0,go_sem,aaU c1]
 · have c2:(S.e==0)=false:=vV he
   simp only[I]at *
   simp only[AP.f49L0,go_sem,aaW hn,gf,c2]
theorem OW {v x:Nat} (hx:x<2):(v* 2|||x)=v* 2+x:=by
 have:=Nat.two_pow_add_eq_or_of_lt (i:=1) (show x<2^1 by omega) v
 rw[Nat.mul_comm v 2]
 simpa using this.symm
theorem Gj {c : FC} (l : List Int) (hl : l.length < 1000) : ∀ (k n v : Nat) (S : SS) (h : H) (ov : AV), n + 1 + k = 16 → v < 2 ^ n → xX l (n + 1) ≤ (v * 2 : Nat) → Ft c S h ov → S.e = 0 →
 ∃ h' S', Ft c S' h' ov ∧ FF c h ov h' ov ∧ match Ar c.text l k (n + 1) v S.at_ with
   |some (y,p)=>S'={S with at_:=p}∧∃e',Lp AP.A [0,1,5,6,7,8] AP.f49L0 [(0,.aG c.f 0),(1,xS l),(5,I (v* 2:Nat)),(6,I (xX l (n+1))),(7,I (flat l n).length),(8,I (n+1:Nat))] h=some (.ret,e',h')∧look e' 4=I y
   |none=>(S'.e=0∧∃e',Lp AP.A [0,1,5,6,7,8] AP.f49L0 [(0,.aG c.f 0),(1,xS l),(5,I (v* 2:Nat)),(6,I (xX l (n+1))),(7,I (flat l n).length),(8,I (n+1:Nat))] h=some (.exit 0,e',h')∧look e' 0=.aG c.f 0)∨
    (S'.e=700∧∃e',Lp AP.A [0,1,5,6,7,8] AP.f49L0 [(0,.aG c.f 0),(1,xS l),(5,I (v* 2:Nat)),(6,I (xX l (n+1))),(7,I (flat l n).length),(8,I (n+1:Nat))] h=some (.ret,e',h')∧look e' 4=I (-1))
 | 0, n, v, S, h, ov, hk, hv, hf, st, he => by
   obtain⟨e',q1,q2⟩:=Li st (xS l) (v* 2:Nat) (xX l (n+1)) (flat l n).length (n+1:Nat) (.inl (by omega))
   exact⟨h,S,st,FF.refl _ _ _,by simp only[Ar];exact .inl ⟨he,e',q1,q2⟩⟩
 | k + 1, n, v, S, h, ov, hk, hv, hf, st, he => by
   have gf:=st.gf
   obtain⟨h1,k1,k2,k3⟩:=zV st 1 1 rfl (by omega)
   have c1:((n+1:Nat):Int)≤15:=by omega
   have hp:2^n≤2^14:=abb (by omega) (by omega)
   by_cases hat:S.at_+1≤8* c.text.size
   · have eg:yb c 1 S=(xJ c.text S.at_ 1,{S with at_:=S.at_+1}):=by rw[yb,if_pos hat]
     rw[eg]at k1 k2
     dsimp only at k1 k2
     have gf1:=k2.gf
     dsimp only at gf1
     rw[Ar,if_pos hat]
     obtain⟨x,hx⟩:∃x,x=xJ c.text S.at_ 1:=⟨_,rfl⟩
     have hx2:x<2:=by rw[hx];simpa using yt c.text S.at_ 1
     rw[←hx]at k1 ⊢
     have o1:bits .or .i64 ((v* 2:Nat):Int) (x:Int)=((v* 2+x:Nat):Int):=by rw[Es (by omega) (by omega),OW hx2]
     have ce:(S.e !=0)=false:=vX he
     have hcl:=B8 l (n+1)
     have hfb:=DR (show l.length<100000 by omega) (n+1)
     have hp2:=D0 (show n+1≤15 by omega)
     have a1:dC (I (n+1:Nat)) 16=some (n+1):=lJ (by omega)
     have g1:(oV 17 (Nm l))[n+1]?=some (I (Au l (n+1))):=by rw[gX (by omega),Nm,if_pos (by omega)]
     have g2:(oV 17 (Nm l))[16]?=some (FN (ints (flat l 15))):=by rw[gX (by omega),Nm,if_neg (by omega)]
     have w1:IntKind.wrap .i64 (((v* 2+x:Nat):Int)-(Au l (n+1):Int))=((v* 2+x:Nat):Int)-(Au l (n+1):Int):=vC (by omega) (by omega)
     have hsc:=I2 l (n+1)
     have hfll:=Cc l n
     have hfln:n* l.length≤15* 1000:=Nat.mul_le_mul (by omega) (by omega)
     have hrb:xS l=.aN (oV 17 (Nm l)) 0:=rfl
     have hf2:xX l (n+1+1)=(xX l (n+1)+Au l (n+1))* 2:=rfl
     by_cases hlt:((v* 2+x:Nat):Int)-(Au l (n+1):Int)<xX l (n+1)
     ·
      obtain⟨i,hi⟩:∃i:Nat,((v* 2+x:Nat):Int)-xX l (n+1)=i:=abd (by omega)
      have hil:i<(syms l (n+1)).length:=by omega
      obtain⟨y,hy⟩:∃y,(syms l (n+1))[i]?=some y:=⟨_,abe hil⟩
      have hfd:AF l (n+1) ((v* 2+x:Nat):Int)=some y:=by rw[AF,if_pos (by omega),hi,abq,hy]
      rw[hfd]
      have hflat:=H4 l hil 15 (by omega)
      rw[hy]at hflat
      have hfl15:(flat l n).length+i<(flat l 15).length:=(wO.1 hflat).1
      have hne:ints (flat l 15)≠[]:=by intro e;have:=abt List.length e;simp at this;simp [this]at hfl15
      have hs:FN (ints (flat l 15))=.aY false (ints (flat l 15)) 0 (ints (flat l 15)).length 1:=by rw[FN,if_neg hne]
      rw[hs]at g2
      have w2:IntKind.wrap .i64 (((flat l n).length:Int)+((v* 2+x:Nat):Int))=(((flat l n).length+(v* 2+x):Nat):Int):=by
       rw[show((flat l n).length:Int)+((v* 2+x:Nat):Int)=(((flat l n).length+(v* 2+x):Nat):Int)by omega];exact xy (by omega)
      have w3:IntKind.wrap .i64 ((((flat l n).length+(v* 2+x):Nat):Int)-xX l (n+1))=(((flat l n).length+i:Nat):Int):=by
       rw[show(((flat l n).length+(v* 2+x):Nat):Int)-xX l (n+1)=(((flat l n).length+i:Nat):Int)by omega];exact xy (by omega)
      have a2:gZ 1 (.aY false (ints (flat l 15)) 0 (ints (flat l 15)).length 1) (I ((flat l n).length+i:Nat))=some (.aN (ints (flat l 15)) ((flat l n).length+i)):=by
       have:=lJ (show(flat l n).length+i<(ints (flat l 15)).length by rw[rk];exact hfl15)
       simp only[gZ,if_true,this,wP,wY,abu]
      have g3:=uM hflat
      refine⟨h1,_,k2,k3,rfl,[(4,I y)],vF ?_,rfl⟩
      rw[hrb]
      clear hrb hs hne hflat hy hfd hf2
      generalize oV 17 (Nm l)=T at *
      generalize ints (flat l 15)=FS at *
      generalize (flat l n).length=FL at *
      generalize xX l (n+1)=FC1 at *
      generalize FL+(v* 2+x)=VV at *
      generalize FL+i=VI2 at *
      generalize v* 2+x=VX at *
      generalize v* 2=V2 at *
      simp only[I]at *
      simp only[AP.f49L0,go_sem,aaW c1,gf,he,k1,o1,gf1,ce,a1,g1,w1,aaW hlt,g2,w2,w3,a2,g3]
     · have hfd:AF l (n+1) ((v* 2+x:Nat):Int)=none:=by rw[AF,if_pos (by omega),List.getElem?_eq_none (by omega)]
       rw[hfd]
       have w2:IntKind.wrap .i64 (((flat l n).length:Int)+(Au l (n+1):Int))=((flat l (n+1)).length:Int):=by
        rw[show((flat l n).length:Int)+(Au l (n+1):Int)=((flat l (n+1)).length:Int)by rw[flat,xu,hsc];omega]
        refine xy ?_
        rw[flat,xu,hsc];omega
       have w3:IntKind.wrap .i64 (xX l (n+1)+(Au l (n+1):Int))=xX l (n+1)+(Au l (n+1):Int):=vC (by omega) (by omega)
       have s1:qL .shl .i64 (xX l (n+1)+(Au l (n+1):Int)) 1=some (.int .i64 (xX l (n+1+1))):=by
        obtain⟨z,hz⟩:∃z:Nat,xX l (n+1)+(Au l (n+1):Int)=z:=abd (by omega)
        have:=AO (a:=z) (s:=1) (by omega) (by omega)
        rw[hf2,hz]
        rw[show((1:Nat):Int)=1 from rfl]at this
        rw[this];simp
       have s2:qL .shl .i64 ((v* 2+x:Nat):Int) 1=some (.int .i64 (((v* 2+x)* 2:Nat):Int)):=by
        have:=AO (a:=v* 2+x) (s:=1) (by omega) (by omega)
        exact this
       have w4:IntKind.wrap .i64 (((n+1:Nat):Int)+1)=((n+1+1:Nat):Int):=xy (n:=n+1+1) (by omega)
       have step:aO (aU AP.A) bH AP.f49L0 (ay [(0,.aG c.f 0),(1,xS l),(5,I (v* 2:Nat)),(6,I (xX l (n+1))),(7,I (flat l n).length),(8,I (n+1:Nat))] [0,1,5,6,7,8]) h=some (.normal,[(0,.aG c.f 0),(1,xS l),(5,I ((v* 2+x)* 2:Nat)),(6,I (xX l (n+1+1))),(7,I (flat l (n+1)).length),(8,I (n+1+1:Nat))],h1):=by
        rw[hrb]
        clear hrb hfd
        generalize oV 17 (Nm l)=T at *
        generalize (flat l n).length=FL at *
        generalize (flat l (n+1)).length=FL1 at *
        generalize xX l (n+1)=FC1 at *
        generalize xX l (n+1+1)=FC2 at *
        generalize (v* 2+x)* 2=VV at *
        generalize v* 2+x=VX at *
        generalize v* 2=V2 at *
        rw[he]at gf gf1
        simp only[I]at *
        simp only[AP.f49L0,go_sem,aaW c1,gf,k1,o1,gf1,a1,g1,w1,aaU hlt,w2,w3,s1,s2,w4]
       have hv2:v* 2+x<2^(n+1):=by rw[Nat.pow_succ];omega
       obtain⟨h',S',q1,q2,q3⟩:=Gj l hl k (n+1) (v* 2+x) _ h1 ov (by omega) hv2 (by rw[hf2];omega) k2 he
       refine⟨h',S',q1,k3.trans q2, ?_⟩
       dsimp only at q3 ⊢
       cases hy:Ar c.text l k (n+1+1) (v* 2+x) (S.at_+1)with
       | none =>
         rw[hy]at q3
         rcases q3 with ⟨q3,e',q4,q5⟩|⟨q3,e',q4,q5⟩
         · exact .inl ⟨q3,e',u9 step q4,q5⟩
         · exact .inr ⟨q3,e',u9 step q4,q5⟩
       | some yp =>
         rw[hy]at q3
         obtain⟨q3,e',q4,q5⟩:=q3
         exact⟨q3,e',u9 step q4,q5⟩
   · have eg:yb c 1 S=(0,{S with e:=700}):=by rw[yb,if_neg hat,xM,if_pos he]
     rw[eg]at k1 k2
     dsimp only at k1 k2
     have gf1:=k2.gf
     dsimp only at gf1
     rw[Ar,if_neg hat]
     have o1:bits .or .i64 ((v* 2:Nat):Int) ((0:Nat):Int)=((v* 2:Nat):Int):=by rw[Es (by omega) (by omega)];simp
     refine⟨h1,_,k2,k3,.inr ⟨rfl,[(4,I (-1))],vF ?_,rfl⟩⟩
     rw[he]at gf
     generalize v* 2=V2 at *
     simp only[I]at *
     simp only[AP.f49L0,go_sem,aaW c1,gf,k1,o1,gf1]
theorem DT {c:FC} {S:SS} {h:H} {ov:AV} (l:List Int) (hl:l.length<1000) (st:Ft c S h ov) (he:S.e=0):
 ∃ h' S' y, aU AP.A 49 [.aG c.f 0, xS l] h = some (I y, h') ∧ Ft c S' h' ov ∧ FF c h ov h' ov ∧ match Ar c.text l 15 1 0 S.at_ with
   |some (z,p)=>S'={S with at_:=p}∧y=z
   |none=>S'.e=700∧y= -1:=by
 obtain⟨h1,S1,q1,q2,q3⟩:=Gj l hl 15 0 0 S h ov (by omega) (by simp) (by simp [xX,Au]) st he
 have conv:∀r,Lp AP.A [0,1,5,6,7,8] AP.f49L0 [(0,.aG c.f 0),(1,xS l),(5,I (0* 2:Nat)),(6,I (xX l (0+1))),(7,I (flat l 0).length),(8,I (0+1:Nat))] h=r→Lp AP.A [0,1,5,6,7,8] AP.f49L0 [(0,.aG c.f 0),(1,xS l),(5,I 0),(6,I 0),(7,I 0),(8,I 1)] h=r:=by
  intro r hr
  have h1:xX l (0+1)=0:=by simp [xX,Au]
  rw[h1]at hr
  exact hr
 cases hy:Ar c.text l 15 1 0 S.at_ with
 | some yp =>
   have hy':Ar c.text l 15 (0+1) 0 S.at_=some yp:=hy
   rw[hy']at q3
   obtain⟨q3,e',q4,q5⟩:=q3
   refine⟨h1,S1,yp.1, ?_,q1,q2,q3,rfl⟩
   have q6:=conv _ q4
   clear q4
   refine vv (fn:=AP.f49) (e:=e') (vs:=[I yp.1]) rfl rfl rfl ?_ (by simp only[AP.f49,c9,oL,q5];rfl)
   simp only[I]at *
   simp only[AP.f49,go_sem,uo,q6]
 | none =>
   have hy':Ar c.text l 15 (0+1) 0 S.at_=none:=hy
   rw[hy']at q3
   rcases q3 with ⟨q3,e',q4,q5⟩|⟨q3,e',q4,q5⟩
   · have q6:=conv _ q4
     clear q4
     obtain⟨h2,r1,r2,r3⟩:=Ap q1
     refine⟨h2,xM 700 S1,-1, ?_,r2,q2.trans r3,by simp [xM,q3],rfl⟩
     refine vv (fn:=AP.f49) (e:=[(4,I (-1))]) rfl rfl rfl ?_ rfl
     simp only[I]at *
     simp only[AP.f49,go_sem,uo,q6,q5,r1]
   · have q6:=conv _ q4
     clear q4
     refine⟨h1,S1,-1, ?_,q1,q2,q3,rfl⟩
     refine vv (fn:=AP.f49) (e:=e') (vs:=[I (-1)]) rfl rfl rfl ?_ (by simp only[AP.f49,c9,oL,q5];rfl)
     simp only[I]at *
     simp only[AP.f49,go_sem,uo,q6]
theorem MV (h:H) (y:Nat) (hy:y<1000000):aU AP.A 50 [I y] h=some (Cn (lenOf y),h):=by
 by_cases c1:y≤256
 · rw[lenOf,if_pos (.inl c1)]
   refine vP (fn:=AP.f50) (h2:=h.eO) (e:=[(2,I 0),(3,I 0),(4,I 600)]) rfl rfl rfl ?_ rfl rfl
   have c1':(y:Int)<257:=by omega
   simp only[I]at *
   simp only[AP.f50,go_sem,aaW c1']
 have c1':¬(y:Int)<257:=by omega
 by_cases c2:285<y
 · rw[lenOf,if_pos (.inr c2)]
   refine vP (fn:=AP.f50) (h2:=h.eO) (e:=[(2,I 0),(3,I 0),(4,I 600)]) rfl rfl rfl ?_ rfl rfl
   have c2':(285:Int)<y:=by omega
   simp only[I]at *
   simp only[AP.f50,go_sem,aaU c1',aaW c2']
 have c2':¬(285:Int)<y:=by omega
 rw[lenOf,if_neg (by omega)]
 by_cases c3:y=285
 · rw[if_pos c3]
   refine vP (fn:=AP.f50) (h2:=h.eO) (e:=[(2,I 258),(3,I 0),(4,I 0)]) rfl rfl rfl ?_ rfl rfl
   have c3':((y:Int)==285)=true:=vW (by omega)
   simp only[I]at *
   simp only[AP.f50,go_sem,aaU c1',aaU c2',c3']
 rw[if_neg c3]
 have c3':((y:Int)==285)=false:=vV (by omega)
 by_cases c4:y<265
 · rw[if_pos c4]
   refine vP (fn:=AP.f50) (h2:=h.eO) (e:=[(2,I (y-254:Nat)),(3,I 0),(4,I 0)]) rfl rfl rfl ?_ rfl rfl
   have c4':(y:Int)<265:=by omega
   have w3:IntKind.wrap .i64 ((y:Int)-254)=((y-254:Nat):Int):=by rw[show(y:Int)-254=((y-254:Nat):Int)by omega];exact xy (by omega)
   simp only[I]at *
   simp only[AP.f50,go_sem,aaU c1',aaU c2',c3',aaW c4',w3]
 rw[if_neg c4]
 have c4':¬(y:Int)<265:=by omega
 obtain⟨k,hk⟩:∃k:Nat,y-261=k:=⟨_,rfl⟩
 have w1:IntKind.wrap .i64 ((y:Int)-261)=(k:Int):=by rw[show(y:Int)-261=(k:Int)by omega];exact xy (by omega)
 rw[show(y-257)/4-1=k/4-0 by omega,Nat.sub_zero,show(y-257)%4=k%4 by omega]
 have q1:bC .quo (.int .i64 (k:Int)) (.int .i64 4)=some (.int .i64 ((k/4:Nat):Int)):=by
  rw[uc _ _ _ (by omega),show(4:Int)=((4:Nat):Int)from rfl,zN,xy (by omega)]
 have q2:bC .rem (.int .i64 (k:Int)) (.int .i64 4)=some (.int .i64 ((k%4:Nat):Int)):=by
  rw[ud _ _ _ (by omega),show(4:Int)=((4:Nat):Int)from rfl,BD]
 have w4:IntKind.wrap .i64 (4+((k%4:Nat):Int))=((4+k%4:Nat):Int):=by rw[show 4+((k%4:Nat):Int)=((4+k%4:Nat):Int)by omega];exact xy (by omega)
 have hp:2^(k/4)≤2^5:=abb (by omega) (by omega)
 have hm:(4+k%4)* 2^(k/4)≤7* 2^5:=Nat.mul_le_mul (by omega) hp
 have q3:qL .shl .i64 ((4+k%4:Nat):Int) ((k/4:Nat):Int)=some (.int .i64 (((4+k%4)* 2^(k/4):Nat):Int)):=AO (by omega) (by omega)
 generalize (4+k%4)* 2^(k/4)=P at *
 have w5:IntKind.wrap .i64 (3+(P:Int))=((3+P:Nat):Int):=by rw[show 3+(P:Int)=((3+P:Nat):Int)by omega];exact xy (by omega)
 refine vP (fn:=AP.f50) (h2:=h.eO) (e:=[(2,I (3+P:Nat)),(3,I (k/4:Nat)),(4,I 0)]) rfl rfl rfl ?_ rfl rfl
 simp only[I]at *
 simp only[AP.f50,go_sem,aaU c1',aaU c2',c3',aaU c4',w1,q1,q2,w4,q3,w5]
theorem Ld (h:H) (y:Nat) (hy:y<1000000):aU AP.A 51 [I y] h=some (Cn (zU y),h):=by
 have c0:¬(y:Int)<0:=by omega
 by_cases c1:30≤y
 · rw[zU,if_pos c1]
   refine vP (fn:=AP.f51) (h2:=h.eO) (e:=[(2,I 0),(3,I 0),(4,I 600)]) rfl rfl rfl ?_ rfl rfl
   have c1':(29:Int)<y:=by omega
   simp only[I]at *
   simp only[AP.f51,go_sem,aaU c0,aaW c1']
 have c1':¬(29:Int)<y:=by omega
 rw[zU,if_neg c1]
 by_cases c2:y<4
 · rw[if_pos c2]
   refine vP (fn:=AP.f51) (h2:=h.eO) (e:=[(2,I (1+y:Nat)),(3,I 0),(4,I 0)]) rfl rfl rfl ?_ rfl rfl
   have c2':(y:Int)<4:=by omega
   have w3:IntKind.wrap .i64 ((y:Int)+1)=((1+y:Nat):Int):=by rw[show(y:Int)+1=((1+y:Nat):Int)by omega];exact xy (by omega)
   simp only[I]at *
   simp only[AP.f51,go_sem,aaU c0,aaU c1',aaW c2',w3]
 rw[if_neg c2]
 have c2':¬(y:Int)<4:=by omega
 have w1:IntKind.wrap .i64 ((y:Int)-2)=((y-2:Nat):Int):=by rw[show(y:Int)-2=((y-2:Nat):Int)by omega];exact xy (by omega)
 have q1:bC .quo (.int .i64 ((y-2:Nat):Int)) (.int .i64 2)=some (.int .i64 ((y/2-1:Nat):Int)):=by
  rw[uc _ _ _ (by omega),show(2:Int)=((2:Nat):Int)from rfl,zN,xy (by omega),show(y-2)/2=y/2-1 by omega]
 have q2:bC .rem (.int .i64 (y:Int)) (.int .i64 2)=some (.int .i64 ((y%2:Nat):Int)):=by
  rw[ud _ _ _ (by omega),show(2:Int)=((2:Nat):Int)from rfl,BD]
 have w4:IntKind.wrap .i64 (2+((y%2:Nat):Int))=((2+y%2:Nat):Int):=by rw[show 2+((y%2:Nat):Int)=((2+y%2:Nat):Int)by omega];exact xy (by omega)
 have hp:2^(y/2-1)≤2^13:=abb (by omega) (by omega)
 have hm:(2+y%2)* 2^(y/2-1)≤3* 2^13:=Nat.mul_le_mul (by omega) hp
 have q3:qL .shl .i64 ((2+y%2:Nat):Int) ((y/2-1:Nat):Int)=some (.int .i64 (((2+y%2)* 2^(y/2-1):Nat):Int)):=AO (by omega) (by omega)
 generalize (2+y%2)* 2^(y/2-1)=P at *
 have w5:IntKind.wrap .i64 (1+(P:Int))=((1+P:Nat):Int):=by rw[show 1+(P:Int)=((1+P:Nat):Int)by omega];exact xy (by omega)
 refine vP (fn:=AP.f51) (h2:=h.eO) (e:=[(2,I (1+P:Nat)),(3,I (y/2-1:Nat)),(4,I 0)]) rfl rfl rfl ?_ rfl rfl
 simp only[I]at *
 simp only[AP.f51,go_sem,aaU c0,aaU c1',aaU c2',w1,q1,q2,w4,q3,w5]
theorem AG {c:FC} {S:SS} {h:H} {ov:AV} (st:Ft c S h ov) (n i:Nat) (hs:n≤i∨(i<n∧S.e≠0)):
 ∃e',Lp AP.A [0,2,4] AP.f19L0 [(0,.aG c.f 0),(2,I n),(4,I i)] h=some (.exit 0,e',h):=by
 have gf:=st.gf
 refine⟨[(0,.aG c.f 0),(2,I n),(4,I i),(36,.bool false)],u6 ?_⟩
 rcases hs with hn|⟨hn,he⟩
 · have c1:¬(i:Int)<n:=by omega
   simp only[I]at *
   simp only[AP.f19L0,go_sem,aaU c1]
 · have c1:(i:Int)<n:=by omega
   have c2:=vV he
   simp only[I]at *
   simp only[AP.f19L0,go_sem,aaW c1,gf,c2]
theorem Ef {c : FC} (n : Nat) (hn : n ≤ 65535) : ∀ (m i : Nat) (S : SS) (h : H) (ov : AV), i + m = n → Ft c S h ov → S.e = 0 →
 ∃e' h' ov' S',Lp AP.A [0,2,4] AP.f19L0 [(0,.aG c.f 0),(2,I n),(4,I i)] h=some (.exit 0,e',h')∧Ft c S' h' ov'∧FF c h ov h' ov'∧Fin (zD c.text c.most m S.at_ S.out) S'
 | 0, i, S, h, ov, hm, st, he => by
   obtain⟨e',q⟩:=AG st n i (.inl (by omega))
   exact⟨e',h,ov,S,q,st,FF.refl _ _ _,by simp only[zD,Fin];cases S;simp_all⟩
 | m + 1, i, S, h, ov, hm, st, he => by
   have gf:=st.gf
   obtain⟨h1,k1,k2,k3⟩:=zV st 8 8 rfl (by omega)
   have c1:(i:Int)<n:=by omega
   have w1:IntKind.wrap .i64 ((i:Int)+1)=((i+1:Nat):Int):=xy (n:=i+1) (by omega)
   by_cases hp:S.at_+8≤8* c.text.size
   · have eg:yb c 8 S=(xJ c.text S.at_ 8,{S with at_:=S.at_+8}):=by rw[yb,if_pos hp]
     rw[eg]at k1 k2
     dsimp only at k1 k2
     have gf1:=k2.gf
     obtain⟨h2,ov2,S2,p1,p2,p3,p4⟩:=Jr k2 he (xJ c.text S.at_ 8)
     have hb:=yt c.text S.at_ 8
     have w2:IntKind.wrap .u8 ((xJ c.text S.at_ 8:Nat):Int)=((xJ c.text S.at_ 8:Nat):Int):=wrap_u8 (by simpa using hb)
     have step:aO (aU AP.A) bH AP.f19L0 (ay [(0,.aG c.f 0),(2,I n),(4,I i)] [0,2,4]) h=some (.normal,[(0,.aG c.f 0),(2,I n),(4,I (i+1:Nat))],h2):=by
      dsimp only at gf1
      rw[he]at gf gf1
      simp only[I]at *
      simp only[AP.f19L0,go_sem,aaW c1,gf,k1,gf1,w2,p1,w1]
     rw[zD,if_pos hp]
     dsimp only at p4
     by_cases hm':c.most≤S.out.length
     · rw[if_pos hm']at p4 ⊢
       have he2:S2.e=701:=by rw[p4]
       have hs:n≤i+1∨(i+1<n∧S2.e≠0):=by
        by_cases q:i+1<n
        · exact .inr ⟨q,by rw[he2];decide⟩
        · exact .inl (by omega)
       obtain⟨e',q⟩:=AG p2 n (i+1) hs
       exact⟨e',h2,ov2,_,u9 step q,p2,k3.trans p3,he2,by decide⟩
     · rw[if_neg hm']at p4 ⊢
       subst p4
       obtain⟨e',h',ov',S',q1,q2,q3,q4⟩:=Ef n hn m (i+1) _ h2 ov2 (by omega) p2 rfl
       exact⟨e',h',ov',S',u9 step q1,q2,(k3.trans p3).trans q3,q4⟩
   · have eg:yb c 8 S=(0,{S with e:=700}):=by rw[yb,if_neg hp,xM,if_pos he]
     rw[eg]at k1 k2
     dsimp only at k1 k2
     have gf1:=k2.gf
     have step:aO (aU AP.A) bH AP.f19L0 (ay [(0,.aG c.f 0),(2,I n),(4,I i)] [0,2,4]) h=some (.normal,[(0,.aG c.f 0),(2,I n),(4,I (i+1:Nat))],h1):=by
      dsimp only at gf1
      rw[he]at gf
      simp only[I]at *
      simp only[AP.f19L0,go_sem,aaW c1,gf,k1,gf1,w1]
     rw[zD,if_neg hp]
     have hs:n≤i+1∨(i+1<n∧(700:Int)≠0):=by
      by_cases q:i+1<n
      · exact .inr ⟨q,by decide⟩
      · exact .inl (by omega)
     obtain⟨e',q⟩:=AG k2 n (i+1) hs
     exact⟨e',h1,ov,_,u9 step q,k2,k3,rfl,by decide⟩
theorem EP {a b:Nat} (ha:a<65536) (hb:b<65536):bits .xor .i64 (a:Int) (b:Int)=((a^^^b:Nat):Int):=by
 have h3:a^^^b<2^16:=Nat.xor_lt_two_pow (by simpa using ha) (by simpa using hb)
 show IntKind.wrap .i64 (((BitVec.ofInt 64 (a:Int)^^^BitVec.ofInt 64 (b:Int)).toNat:Nat):Int)=_
 rw[BitVec.toNat_xor,Af 64 a (by omega),Af 64 b (by omega)]
 exact xy (by omega)
theorem HA {n:Nat} (hn:n<65536):n^^^65535=65535-n:=by
 have h1:=I7 hn
 have h2:=EP hn (b:=65535) (by omega)
 rw[show((65535:Nat):Int)=65535 from rfl,h1]at h2
 omega
theorem KV {a b:Nat} (ha:a<65536) (hb:b<65536):a^^^b=65535↔a+b=65535:=by
 have h1:=HA ha
 constructor
 · intro h
   have:b=a^^^65535:=by rw[←h,←Nat.xor_assoc,Nat.xor_self,Nat.zero_xor]
   omega
 · intro h
   have:b=a^^^65535:=by omega
   rw[this,←Nat.xor_assoc,Nat.xor_self,Nat.zero_xor]
theorem DU (c:FC) (n:Nat) (S:SS) (h:S.e=0∨S.e=700):(yb c n S).2.e=0∨(yb c n S).2.e=700:=by
 unfold yb;split
 · exact h
 · rcases h with h|h<;>simp [xM,h]
theorem Hf (c:FC) (S:SS) (n:Nat) (hn:n≤16):(yb c n S).1<65536:=by
 unfold yb;split
 · have:=yt c.text S.at_ n
   have:=abb (show 0<2 by omega) hn
   simp at *;omega
 · simp
theorem Lh {c : FC} {S : SS} {h : H} {ov : AV} (st : Ft c S h ov) (he : S.e = 0) :
 ∃h' ov' S',aU AP.A 19 [.aG c.f 0] h=some (.bW [],h')∧Ft c S' h' ov'∧FF c h ov h' ov'∧Fin (AQ c.text c.most S.at_ S.out) S':=by
 obtain⟨h1,a1,a2,a3⟩:=MF st
 obtain⟨p,hp⟩:∃p,p=(S.at_+7)/8* 8:=⟨_,rfl⟩
 rw[←hp]at a2
 have hS:AQ c.text c.most S.at_ S.out=if p+32≤8* c.text.size then(if xJ c.text p 16+xJ c.text (p+16) 16=65535 then zD c.text c.most (xJ c.text p 16) (p+32) S.out else .error 700)else .error 700:=by
  rw[hp];rfl
 rw[hS];clear hS
 obtain⟨h2,b1,b2,b3⟩:=zV a2 16 16 rfl (by omega)
 obtain⟨h3,d1,d2,d3⟩:=zV b2 16 16 rfl (by omega)
 obtain⟨n,hn⟩:∃n,n=(yb c 16 {S with at_:=p}).1:=⟨_,rfl⟩
 obtain⟨S2,hS2⟩:∃n,n=(yb c 16 {S with at_:=p}).2:=⟨_,rfl⟩
 obtain⟨m,hm⟩:∃n,n=(yb c 16 S2).1:=⟨_,rfl⟩
 obtain⟨S3,hS3⟩:∃n,n=(yb c 16 S2).2:=⟨_,rfl⟩
 rw[←hn]at b1;rw[←hS2]at b2 d1 d2;rw[←hm]at d1;rw[←hS3]at d2
 have hn16:n<65536:=hn ▸ Hf c _ 16 (by omega)
 have hm16:m<65536:=hm ▸ Hf c _ 16 (by omega)
 have x1:=EP hn16 hm16
 have gf3:=d2.gf
 by_cases h32:p+32≤8* c.text.size
 · have e2:yb c 16 {S with at_:=p}=(xJ c.text p 16,{S with at_:=p+16}):=by rw[yb,if_pos (by show p+16≤_;omega)]
   rw[e2]at hn hS2;dsimp only at hn hS2;subst hS2
   have e3:yb c 16 {S with at_:=p+16}=(xJ c.text (p+16) 16,{S with at_:=p+16+16}):=by rw[yb,if_pos (by show p+16+16≤_;omega)]
   rw[e3]at hm hS3;dsimp only at hm hS3;subst hS3
   dsimp only at gf3
   rw[he]at gf3
   rw[if_pos h32,←hn,←hm]
   by_cases hx:n+m=65535
   · rw[if_pos hx]
     have c1:(((n^^^m:Nat):Int) !=65535)=false:=vX (by have:=(KV hn16 hm16).2 hx;omega)
     obtain⟨e',h',ov',S',q1,q2,q3,q4⟩:=Ef n (by omega) n 0 _ h3 ov (by omega) d2 he
     have q1':Lp AP.A [0,2,4] AP.f19L0 [(0,.aG c.f 0),(2,I n),(4,I 0)] h3=some (.exit 0,e',h'):=q1
     clear q1
     refine⟨h',ov',S', ?_,q2,((a3.trans b3).trans d3).trans q3,q4⟩
     refine yE (fn:=AP.f19) (e:=[]) (vs:=[]) rfl rfl rfl ?_ rfl
     simp only[I]at *
     simp only[AP.f19,go_sem,uo,a1,b1,d1,gf3,x1,c1,q1']
   · rw[if_neg hx]
     have c1:(((n^^^m:Nat):Int) !=65535)=true:=vY (fun e=>hx ((KV hn16 hm16).1 (by omega)))
     obtain⟨h4,f1,f2,f3⟩:=Ap d2
     have he4:(xM 700 {S with at_:=p+16+16}).e=700:=by simp [xM,he]
     have hs:n≤0∨(0<n∧(xM 700 {S with at_:=p+16+16}).e≠0):=by
      by_cases q:0<n
      · exact .inr ⟨q,by rw[he4];decide⟩
      · exact .inl (by omega)
     obtain⟨e',q⟩:=AG f2 n 0 hs
     have q':Lp AP.A [0,2,4] AP.f19L0 [(0,.aG c.f 0),(2,I n),(4,I 0)] h4=some (.exit 0,e',h4):=q
     clear q
     refine⟨h4,ov,_, ?_,f2,((a3.trans b3).trans d3).trans f3,he4,by decide⟩
     refine yE (fn:=AP.f19) (e:=[]) (vs:=[]) rfl rfl rfl ?_ rfl
     simp only[I]at *
     simp only[AP.f19,go_sem,uo,a1,b1,d1,gf3,x1,c1,f1,q']
 · rw [if_neg h32]
   have he3:S3.e=700:=by
    rw[hS3,hS2]
    unfold yb
    by_cases q1:p+16≤8* c.text.size
    · simp only[if_pos q1]
      rw[if_neg (by omega)];simp [xM,he]
    · simp only[if_neg q1,xM,he,if_true]
      split<;>simp
   have c0:(S3.e==0)=false:=vV (by rw[he3];decide)
   have hs:n≤0∨(0<n∧S3.e≠0):=by
    by_cases q:0<n
    · exact .inr ⟨q,by rw[he3];decide⟩
    · exact .inl (by omega)
   obtain⟨e',q⟩:=AG d2 n 0 hs
   have q':Lp AP.A [0,2,4] AP.f19L0 [(0,.aG c.f 0),(2,I n),(4,I 0)] h3=some (.exit 0,e',h3):=q
   clear q
   refine⟨h3,ov,S3, ?_,d2,(a3.trans b3).trans d3,he3,by decide⟩
   refine yE (fn:=AP.f19) (e:=[]) (vs:=[]) rfl rfl rfl ?_ rfl
   simp only[I]at *
   simp only[AP.f19,go_sem,uo,a1,b1,d1,gf3,c0,q']
end Ab
