/- Part C1. -/
import Derived.KernelRfl
import Derived.Test.YtcapkjggnnakfaaGreatDoorAP
set_option linter.unusedSimpArgs false
set_option linter.unusedVariables false
namespace Ab
open Go
theorem UQ:type_of% @decide_eq_false:= @decide_eq_false
theorem UR:type_of% @List.length_cons:= @List.length_cons
theorem US:type_of% @decide_eq_true:= @decide_eq_true
theorem UT:type_of% @List.length_nil:= @List.length_nil
theorem UU:type_of% @Option.map_some:= @Option.map_some
theorem UW:type_of% @List.length_map:= @List.length_map
theorem UX:type_of% @List.append_nil:= @List.append_nil
theorem UY:type_of% @decide_eq_true_eq:= @decide_eq_true_eq
theorem UZ:type_of% @Bool.false_and:= @Bool.false_and
theorem U1:type_of% @List.drop_zero:= @List.drop_zero
theorem U2:type_of% @List.eq_nil_of_length_eq_zero:= @List.eq_nil_of_length_eq_zero
theorem U3:type_of% @Bool.and_false:= @Bool.and_false
theorem U4:type_of% @Nat.pow_le_pow_right:= @Nat.pow_le_pow_right
theorem U5:type_of% @List.map_cons:= @List.map_cons
theorem U6:type_of% @Option.map_none:= @Option.map_none
theorem U7:type_of% @Bool.true_and:= @Bool.true_and
theorem U8:type_of% @List.mem_map:= @List.mem_map
theorem U9:type_of% @Int.eq_ofNat_of_zero_le:= @Int.eq_ofNat_of_zero_le
theorem Va:type_of% @List.map_append:= @List.map_append
theorem Vb:type_of% @List.getElem?_eq_getElem:= @List.getElem?_eq_getElem
theorem Vc:type_of% @List.length_replicate:= @List.length_replicate
theorem Vd:type_of% @List.all_eq_true:= @List.all_eq_true
theorem Ve:type_of% @Bool.and_self:= @Bool.and_self
theorem Vf:type_of% @List.map_nil:= @List.map_nil
theorem Vg:type_of% @Nat.add_zero:= @Nat.add_zero
theorem Vh:type_of% @Int.toNat_natCast:= @Int.toNat_natCast
theorem Vi:type_of% @congrArg:= @congrArg
theorem Vj:type_of% @List.map_singleton:= @List.map_singleton
theorem Vk:type_of% @Nat.mul_one:= @Nat.mul_one
theorem Vl:type_of% @List.all_cons:= @List.all_cons
attribute [local congr] tc
def xZ (l:List Int) (n:Nat):Nat:=if n=0 then 0 else l.countP (fun x=>x==(n:Int))
def syms (l:List Int) (n:Nat):List Int:=if n=0 then []else l.zipIdx.filterMap fun p=>if p.1=(n:Int)then some (p.2:Int)else none
theorem Ak (p:List Int) (x:Int) (n:Nat):xZ (p++[x]) n=xZ p n+if n≠0∧x=(n:Int)then 1 else 0:=by
 unfold xZ
 by_cases hn:n=0
 · simp [hn]
 · simp [hn,List.countP_append,List.countP_cons]
theorem Bh (p:List Int) (x:Int) (n:Nat):syms (p++[x]) n=syms p n++if n≠0∧x=(n:Int)then [(p.length:Int)]else []:=by
 unfold syms
 by_cases hn:n=0
 · simp [hn]
 · simp [hn,List.zipIdx_append,List.filterMap_append]
   split<;>simp_all
theorem zC (l:List Int) (n:Nat):(syms l n).length≤l.length:=by
 unfold syms
 split
 · simp
 · refine uX (List.length_filterMap_le _ _) ?_
   simp
theorem zq (l:List Int) (n:Nat):xZ l n≤l.length:=by
 unfold xZ
 split
 · omega
 · exact List.countP_le_length
structure Bk (h0 h:H) (b:Nat) (C:Nat→AV) (p:List Int):Prop where
 get:h.get b=some (mY 49 C)
 fl:h.floor=h0.next
 fb:h0.next≤b
 nx:h.floor≤h.next
 low:∀id,id<h0.next→h.get id=h0.get id
 Lv:∀n,n<16→C (16+n)=I (xZ p n)
 own:∀n,n<16→mX h (C (32+n)) (ints (syms p n))
 nb:∀n,n<16→(C (32+n)).id?≠some b
 KQ:∀n m,n<16→m<16→n≠m→∀i,(C (32+n)).id?=some i→(C (32+m)).id?≠some i
set_option maxHeartbeats 1000000 in
theorem HD (h0 h : H) (b : Nat) (C : Nat → AV) (p : List Int) (n : Nat) (x : AV) (N : Int) (bk : Bk h0 h b C p) (hn1 : 0 < n) (hn : n < 16) (hp : p.length < 100000) (hel : ∃ a, fU 1 x (I p.length) = some a ∧ ∀ g : H, (∀ id c, h0.get id = some c → g.get id = some c) → bS false 1 a g = some (I n)) (hN : (p.length : Int) < N) :
 ∃h' C',aK (aQ AP.A) bz AP.f41L1 [(3,.aC b 0),(10,x),(11,I N),(12,I p.length)] h=some (.normal,[(3,.aC b 0),(10,x),(11,I N),(12,I (p.length+1))],h')∧Bk h0 h' b C' (p++[(n:Int)])∧∀i,(i<16∨i=48)→C' i=C i:=by
 obtain⟨a,ha1,ha2⟩:=hel
 have hlow:∀id c,h0.get id=some c→h.get id=some c:=fun id c q=>by rw[bk.low id (h0.lt id c q)];exact q
 have hld:=ha2 h hlow
 have hx:dc (I n) 16=some n:=ki hn
 have g1:(mY 49 C)[16+n]?=some (I (xZ p n)):=by rw[fS (by omega),bk.Lv n hn]
 have hcl:=zq p n
 have hw:IntKind.wrap .i64 ((xZ p n:Int)+1)=xZ p n+1:=tx (by omega) (by omega)
 have hw2:IntKind.wrap .i64 ((p.length:Int)+1)=p.length+1:=tx (by omega) (by omega)
 have hfb:h.floor≤b:=by rw[bk.fl];exact bk.fb
 have hs1:(mY 49 C).set (16+n) (I (xZ p n+1))=mY 49 (tR C (16+n) (I (xZ p n+1))):=tw (by omega) _
 obtain⟨C1,eC1⟩:∃D,D=tR C (16+n) (I (xZ p n+1)):=⟨_,rfl⟩
 rw[←eC1]at hs1
 obtain⟨h1,eh1⟩:∃g,g=(h.set b (mY 49 C1)).alloc [I p.length]:=⟨_,rfl⟩
 have hbn:b<h.next:=h.lt _ _ bk.get
 have hb1:h1.get b=some (mY 49 C1):=by
  rw[eh1,H.aV,H.jy,if_neg (by omega),H.dE,if_pos rfl,bk.get];rfl
 have hC1:C1 (32+n)=C (32+n):=by rw[eC1,tR,if_neg (by omega)]
 have hlo1:∀i,i≠b→i≠h.next→h1.get i=h.get i:=fun i q1 q2=>by
  rw[eh1,H.aV,H.jy,if_neg q2,H.dE,if_neg q1]
 have hfl1:h1.floor=h.floor:=by rw[eh1];simp
 have hnx1:h1.next=h.next+1:=by rw[eh1];simp
 have ho1:∀m,m<16→mX h1 (C (32+m)) (ints (syms p m)):=fun m hm=>
  (bk.own m hm).mono hfl1 fun i hi=>hlo1 i (fun e=>bk.nb m hm (e ▸ hi)) (by have:=(bk.own m hm).lt hi;omega)
 have hsl:=zC p n
 have hnxf:=bk.nx
 obtain⟨v',h2,q1,q2,q3,q4,q5,q6⟩:=(ho1 n hn).app (by omega) (z:=8) (I p.length) rfl (by simp [roomy];omega)
 have g2:(mY 49 C1)[32+n]?=some (C (32+n)):=by rw[fS (by omega),hC1]
 have hb2:h2.get b=some (mY 49 C1):=by rw[q5 b (bk.nb n hn) (by omega)];exact hb1
 have hs2:(mY 49 C1).set (32+n) v'=mY 49 (tR C1 (32+n) v'):=tw (by omega) _
 have hfl2:h2.floor≤b:=by have:=bk.fb;have:=bk.fl;omega
 have hv':v'.cells=[v']∧v'.sc=true:=by
  rcases q2 with ⟨rfl,_⟩|⟨id,rfl,_⟩<;>exact⟨rfl,rfl⟩
 have b1:16+n≤48:=by omega
 have b2:32+n≤48:=by omega
 have hal:(h.set b (mY 49 C1)).get b=some (mY 49 C1):=by rw[H.dE,if_pos rfl,bk.get];rfl
 have hal2:h1.get h.next=some [I p.length]:=by rw[eh1,H.aV,H.jy,if_pos rfl]
 refine⟨h2.set b (mY 49 (tR C1 (32+n) v')),tR C1 (32+n) v', ?_, ?_,fun i hi=>by rw[tR,if_neg (by omega),eC1,tR,if_neg (by omega)]⟩
 · simp only[I]at *
   simp [AP.f41L1,aK,au,aM,ai,ah,br,aX,ha1,hld,hN,hn1,hx,bk.get,g1,hw,hw2,hfb,hs1,dP,dY,kD,aR,H.aV,bX.aN,b1,b2,hal,g2,←eh1,hal2,q1,hb2,hs2,hfl2,hv'.1,hv'.2]
 · refine⟨by rw[H.dE,if_pos rfl,hb2];rfl,by simp;rw[q3,hfl1,bk.fl],bk.fb,by simp;omega,fun id hid=> ?_,fun m hm=> ?_,fun m hm=> ?_,fun m hm=> ?_,fun m k hm hk hne i hi=> ?_⟩
   · have hfb':=bk.fb
     have hfl':=bk.fl
     rw[H.dE,if_neg (by omega),q5 id ?_ (by omega),hlo1 id (by omega) (by omega),bk.low id hid]
     intro hi
     rcases bk.own n hn with ⟨e,_⟩|⟨k,e,_,q⟩
     · rw[e]at hi;cases hi
     · rw[e]at hi;cases hi;have:=q.1;omega
   · rw[tR,if_neg (by omega),eC1,tR,Ak]
     by_cases e:m=n
     · subst e;rw[if_pos rfl,if_pos ⟨by omega,rfl⟩];simp
     · rw[if_neg (by omega),bk.Lv m hm,if_neg (by omega)];simp
   · have hm32:tR C1 (32+n) v' (32+m)=if m=n then v' else C (32+m):=by
      simp only[tR]
      by_cases e:m=n
      · rw[if_pos (by omega),if_pos e]
      · rw[if_neg (by omega),if_neg e,eC1,tR,if_neg (by omega)]
     rw[hm32,Bh]
     by_cases e:m=n
     · subst e
       rw[if_pos rfl,if_pos ⟨by omega,rfl⟩,pq]
       refine q2.mono (by simp) fun i hi=> ?_
       rw[H.dE,if_neg]
       intro e2;subst e2;rw[q6]at hi;cases hi;omega
     · rw[if_neg e,if_neg (by omega),UX]
       refine(ho1 m hm).mono (by simp;omega) fun i hi=> ?_
       have hlt:=(bk.own m hm).lt hi
       rw[H.dE,if_neg (fun (e2:i=b)=>bk.nb m hm (e2 ▸ hi)),q5 i (bk.KQ m n hm hn e i hi) (by omega)]
   · have hm32:tR C1 (32+n) v' (32+m)=if m=n then v' else C (32+m):=by
      simp only[tR]
      by_cases e:m=n
      · rw[if_pos (by omega),if_pos e]
      · rw[if_neg (by omega),if_neg e,eC1,tR,if_neg (by omega)]
     rw[hm32]
     by_cases e:m=n
     · rw[if_pos e,q6];intro e2;cases e2;omega
     · rw[if_neg e];exact bk.nb m hm
   · have hm32:∀m,tR C1 (32+n) v' (32+m)=if m=n then v' else C (32+m):=fun m=>by
      simp only[tR]
      by_cases e:m=n
      · rw[if_pos (by omega),if_pos e]
      · rw[if_neg (by omega),if_neg e,eC1,tR,if_neg (by omega)]
     rw[hm32]at hi ⊢
     by_cases e:m=n
     · rw[if_pos e,q6]at hi
       cases hi
       rw[if_neg (by omega)]
       intro e2;have:=(bk.own k hk).lt e2;omega
     · rw[if_neg e]at hi
       by_cases e3:k=n
       · rw[if_pos e3,q6];intro e2;cases e2;have:=(bk.own m hm).lt hi;omega
       · rw[if_neg e3];exact bk.KQ m k hm hk hne i hi
set_option maxHeartbeats 1000000 in
theorem HE (h0 h:H) (b:Nat) (C:Nat→AV) (p:List Int) (x:AV) (N:Int) (bk:Bk h0 h b C p) (hp:p.length<100000) (hel:∃a,fU 1 x (I p.length)=some a∧∀g:H,(∀id c,h0.get id=some c→g.get id=some c)→bS false 1 a g=some (I 0)) (hN:(p.length:Int)<N):
 aK (aQ AP.A) bz AP.f41L1 [(3,.aC b 0),(10,x),(11,I N),(12,I p.length)] h=some (.normal,[(3,.aC b 0),(10,x),(11,I N),(12,I (p.length+1))],h)∧Bk h0 h b C (p++[0]):=by
 obtain⟨a,ha1,ha2⟩:=hel
 have hlow:∀id c,h0.get id=some c→h.get id=some c:=fun id c q=>by rw[bk.low id (h0.lt id c q)];exact q
 have hld:=ha2 h hlow
 have hw2:IntKind.wrap .i64 ((p.length:Int)+1)=p.length+1:=tx (by omega) (by omega)
 refine⟨?_,⟨bk.get,bk.fl,bk.fb,bk.nx,bk.low,fun n hn=> ?_,fun n hn=> ?_,bk.nb,bk.KQ⟩⟩
 · simp only[I]at *
   simp [AP.f41L1,aK,au,aM,ai,ah,ha1,hld,hN,hw2]
 · rw[bk.Lv n hn,Ak,if_neg (by omega)];simp
 · have:=bk.own n hn
   rw[Bh,if_neg (by omega),UX];exact this
theorem Dv (h0 : H) (b : Nat) (x : AV) (l : List Int) (hl : l.length < 100000) (hr : ∀ y ∈ l, 0 ≤ y ∧ y < 16) (hx : Rd h0 x (ints l)) : ∀ (m : Nat) (p q : List Int) (C : Nat → AV) (h : H), l = p ++ q → q.length = m → Bk h0 h b C p →
 ∃h' C' e',Lp AP.A [3,10,11,12] AP.f41L1 [(3,.aC b 0),(10,x),(11,I l.length),(12,I p.length)] h=some (.exit 0,e',h')∧look e' 3=.aC b 0∧Bk h0 h' b C' l∧∀i,(i<16∨i=48)→C' i=C i
 | 0, p, [], C, h, hpq, _, bk => by
   refine⟨h,C, ?_⟩
   have:l=p:=by simpa using hpq
   subst this
   refine⟨_,sY (e':=[(3,.aC b 0),(10,x),(11,I l.length),(12,I l.length),(13,.bool false)]) ?_,rfl,bk,fun _ _=>rfl⟩
   simp [AP.f41L1,aK,au,ai,ah,I]
 | m + 1, p, y :: q, C, h, hpq, hm, bk => by
   have hmem:y∈l:=by rw[hpq];simp
   obtain⟨h1,h2⟩:=hr y hmem
   have hget:l[p.length]?=some y:=by rw[hpq];simp
   have hel:=hx.elem (sG hget)
   have hlen:p.length<l.length:=(uB.1 hget).1
   obtain⟨n,rfl⟩:=U9 h1
   have next:∃h' C',aK (aQ AP.A) bz AP.f41L1 [(3,.aC b 0),(10,x),(11,I l.length),(12,I p.length)] h=some (.normal,[(3,.aC b 0),(10,x),(11,I l.length),(12,I (p.length+1))],h')∧Bk h0 h' b C' (p++[(n:Int)])∧∀i,(i<16∨i=48)→C' i=C i:=by
    by_cases hn:n=0
    · subst hn
      have z:=HE h0 h b C p x l.length bk (by omega) hel (by omega)
      exact⟨h,C,z.1,z.2,fun _ _=>rfl⟩
    · exact HD h0 h b C p n x l.length bk (by omega) (by omega) (by omega) hel (by omega)
   obtain⟨h',C',s1,bk',hC'⟩:=next
   have ih:=Dv h0 b x l hl hr hx m (p++[(n:Int)]) q C' h' (by rw[hpq];simp) (by simpa using hm) bk'
   obtain⟨h2,C2,e2,k1,k2,k3,k4⟩:=ih
   exact⟨h2,C2,e2,sZ s1 (by simpa using k1),k2,k3,fun i hi=>by rw[k4 i hi,hC' i hi]⟩
def vw (l:List Int):Nat→Int
 |0=>0
 |n+1=>(vw l n+xZ l n)* 2
def vP (l:List Int):Nat→Int
 |0=>1
 |n+1=>vP l n* 2-xZ l (n+1)
theorem AX {l:List Int} (hl:l.length<100000) (n:Nat):0≤vw l n∧vw l n≤200000* 2^n-200000:=by
 induction n with
 |zero=>simp [vw]
 |succ n ih=>have:=zq l n;simp only[vw,Int.pow_succ];omega
theorem EY {l:List Int} (hl:l.length<100000) (n:Nat): -(200000* 2^n-100000)≤vP l n∧vP l n≤2^n:=by
 induction n with
 |zero=>simp [vP]
 |succ n ih=>have:=zq l (n+1);simp only[vP,Int.pow_succ];omega
theorem A9 {m:Nat} (hm:m≤15):(2:Int)^m≤32768:=by
 have h:(2:Nat)^m≤2^15:=U4 (by omega) hm
 have h2:((2^m:Nat):Int)≤((2^15:Nat):Int):=Int.ofNat_le.2 h
 simpa using h2
theorem Bk.put {h0 h:H} {b:Nat} {C:Nat→AV} {p:List Int} (bk:Bk h0 h b C p) {i:Nat} (hi:i<16∨i=48) (v:AV):Bk h0 (h.set b (mY 49 (tR C i v))) b (tR C i v) p:=by
 have c:∀j,16≤j→j<48→tR C i v j=C j:=fun j h1 h2=>by rw[tR,if_neg (by omega)]
 have hbn:b<h.next:=h.lt _ _ bk.get
 refine⟨by rw[H.dE,if_pos rfl,bk.get];rfl,by simp [bk.fl],bk.fb,by simp [bk.nx],fun id hid=> ?_,fun n hn=> ?_,fun n hn=> ?_,fun n hn=> ?_,fun n m hn hm hne k hk=> ?_⟩
 · have:=bk.fb
   rw[H.dE,if_neg (by omega)];exact bk.low id hid
 · rw[c _ (by omega) (by omega)];exact bk.Lv n hn
 · rw[c _ (by omega) (by omega)]
   refine(bk.own n hn).mono (by simp) fun k hk=> ?_
   rw[H.dE,if_neg];intro (e:k=b);exact bk.nb n hn (e ▸ hk)
 · rw[c _ (by omega) (by omega)];exact bk.nb n hn
 · rw[c _ (by omega) (by omega)]at hk ⊢;exact bk.KQ n m hn hm hne k hk
set_option maxHeartbeats 1000000 in
theorem FY (h0 h:H) (b:Nat) (C:Nat→AV) (l:List Int) (m:Nat) (bk:Bk h0 h b C l) (hl:l.length<100000) (hm:m<15) (hc:C 48=I (vP l m)):
 aK (aQ AP.A) bz AP.f41L0 [(3,.aC b 0),(6,I (vw l m)),(7,I (m+1))] h=
  some (.normal,[(3,.aC b 0),(6,I (vw l (m+1))),(7,I (m+1+1))],(h.set b (mY 49 (tR C (m+1) (I (vw l (m+1)))))).set b (mY 49 (tR (tR C (m+1) (I (vw l (m+1)))) 48 (I (vP l (m+1)))))):=by
 have hp:=A9 (m:=m) (by omega)
 have hf:=AX hl m
 have hlf:=EY hl m
 have c1:=zq l m
 have c2:=zq l (m+1)
 have w1:IntKind.wrap .i64 (m:Int)=m:=tx (by omega) (by omega)
 have w2:IntKind.wrap .i64 (vw l m+xZ l m)=vw l m+xZ l m:=tx (by omega) (by omega)
 have w3:IntKind.wrap .i64 ((vw l m+xZ l m)* 2)=vw l (m+1):=tx (by omega) (by omega)
 have w4:IntKind.wrap .i64 (vP l m* 2)=vP l m* 2:=tx (by omega) (by omega)
 have w5:IntKind.wrap .i64 (vP l m* 2-xZ l (m+1))=vP l (m+1):=tx (by omega) (by omega)
 have w6:IntKind.wrap .i64 ((m:Int)+1+1)=m+1+1:=tx (by omega) (by omega)
 have x1:dc (I m) 16=some m:=ki (by omega)
 have x2:dc (I (m+1)) 16=some (m+1):=ki (i:=m+1) (by omega)
 have g1:(mY 49 C)[16+m]?=some (I (xZ l m)):=by rw[fS (by omega),bk.Lv m (by omega)]
 obtain⟨C1,e1⟩:∃D,D=tR C (m+1) (I (vw l (m+1))):=⟨_,rfl⟩
 have s1:(mY 49 C).set (m+1) (I (vw l (m+1)))=mY 49 C1:=by rw[e1];exact tw (by omega) _
 have g2:(mY 49 C1)[16+(m+1)]?=some (I (xZ l (m+1))):=by rw[fS (by omega),e1,tR,if_neg (by omega),bk.Lv (m+1) (by omega)]
 have g3:(mY 49 C1)[48]?=some (I (vP l m)):=by rw[fS (by omega),e1,tR,if_neg (by omega),hc]
 have g4:C1 48=I (vP l m):=by rw[e1,tR,if_neg (by omega),hc]
 have s2:(mY 49 C1).set 48 (I (vP l (m+1)))=mY 49 (tR C1 48 (I (vP l (m+1)))):=tw (by omega) _
 have hfb:h.floor≤b:=by rw[bk.fl];exact bk.fb
 have ge:(h.set b (mY 49 C1)).get b=some (mY 49 C1):=by rw[H.dE,if_pos rfl,bk.get];rfl
 have b1:m+1≤48:=by omega
 have b3:m≤47:=by omega
 have b4:m≤14:=by omega
 have b2:(m:Int)+1≤15:=by omega
 rw[←e1]
 simp only[I]at *
 simp [AP.f41L0,aK,au,aM,ai,ah,bk.get,w1,w2,w3,w4,w5,w6,x1,x2,g1,g2,g3,g4,s1,s2,hfb,ge,b1,b2,b3,b4]
theorem Cp (h0:H) (b:Nat) (l:List Int) (hl:l.length<100000):∀(k m:Nat) (C:Nat→AV) (h:H),m+k=15→Bk h0 h b C l→C 48=I (vP l m)→(∀i,i≤m→C i=I (vw l i))→
 ∃h' C' e',Lp AP.A [3,6,7] AP.f41L0 [(3,.aC b 0),(6,I (vw l m)),(7,I (m+1))] h=some (.exit 2,e',h')∧look e' 3=.aC b 0∧Bk h0 h' b C' l∧C' 48=I (vP l 15)∧∀i,i≤15→C' i=I (vw l i)
 | 0, m, C, h, hk, bk, hc, hf => by
   obtain rfl:m=15:=by omega
   refine⟨h,C,[(3,.aC b 0),(6,I (vw l 15)),(7,I 16),(45,.bool false)],sY ?_,rfl,bk,hc,hf⟩
   have e:((15:Nat):Int)+1=16:=rfl
   rw[e]
   simp [AP.f41L0,aK,au,ai,ah,I]
 | k + 1, m, C, h, hk, bk, hc, hf => by
   have st:=FY h0 h b C l m bk hl (by omega) hc
   have bk1:=(bk.put (i:=m+1) (.inl (by omega)) (I (vw l (m+1)))).put (i:=48) (.inr rfl) (I (vP l (m+1)))
   obtain⟨h',C',e',k1,k2⟩:=Cp h0 b l hl k (m+1) _ _ (by omega) bk1 (by simp [tR]) (fun i hi=>by
    rw[tR,if_neg (by omega),tR]
    by_cases e:i=m+1
    · rw[if_pos e,e]
    · rw[if_neg e];exact hf i (by omega))
   exact⟨h',C',e',sZ st (by simpa using k1),k2⟩
def CK (l:List AV):AV:=if l=[]then .aO else .aU false l 0 l.length 1
def xy (l:List Int):Nat→AV:=fun i=>if i<16 then I (vw l i)else if i<32 then I (xZ l (i-16))else if i<48 then CK (ints (syms l (i-32)))else I (vP l 15)
def vJ (l:List Int):AV:=.aJ (mY 49 (xy l)) 0
theorem Gu {f:AV→Option AV} {C D:Nat→AV}:∀(n:Nat),(∀i,i<n→f (C i)=some (D i))→fJ f (mY n C)=some (mY n D):=by
 have key:∀(l:List Nat),(∀i∈l,f (C i)=some (D i))→fJ f (l.map C)=some (l.map D):=by
  intro l
  induction l with
  |nil=>intro _;rfl
  |cons i l ih=>intro h;simp [fJ,h i (by simp),ih (fun j hj=>h j (by simp [hj]))]
 exact fun n h=>key _ fun i hi=>h i (List.mem_range.1 hi)
theorem xh (g:Nat→Option (List AV)) (fl n:Nat) (t:Bool):∀l:List Int,fJ (snap g fl (n+1) t) (ints l)=some (ints l)
 |[]=>rfl
 | x :: l => by
   have:=xh g fl n t l
   simp only[ints,U5,fJ]at this ⊢
   rw[this];rfl
theorem Fo {h:H} {v:AV} {cs:List AV} {fl n:Nat} (o:mX h v cs) (hf:fl≤h.floor) (hm:fJ (snap h.get fl (n+1) false) cs=some cs):snap h.get fl (n+2) false v=some (CK cs):=by
 rcases o with ⟨rfl,rfl⟩|⟨id,rfl,hg,hfl,hne⟩
 · rfl
 · have h1:¬id<fl:=by omega
   simp only[snap,if_neg h1,hg,uC,uK,Vk,U1,List.take_length,uF,if_true,hm,CK,if_neg hne]
def C0:Nat→AV:=fun i=>if i<32 then I 0 else if i<48 then .aO else I 1
set_option maxHeartbeats 1000000 in
theorem z5 (h : H) (x : AV) (l : List Int) (hl : l.length < 100000) (hr : ∀ y ∈ l, 0 ≤ y ∧ y < 16) (hx : Rd h x (ints l)) : aQ AP.A 41 [x] h = some (vJ l, h) := by
 have hb0:Bk h (h.dX.alloc (mY 49 C0)) h.next C0 []:=by
  refine⟨by simp [H.aV],by simp,uF _,by simp,fun id hid=> ?_,fun n hn=> ?_,fun n hn=> ?_,fun n hn=> ?_,fun n m hn hm hne i hi=> ?_⟩
  · rw[H.aV,if_neg (by simp;omega)];rfl
  · simp only[C0,xZ,List.countP_nil];rw[if_pos (by omega)];simp
  · simp only[C0];rw[if_neg (by omega),if_pos (by omega)]
    exact .inl ⟨rfl,by unfold syms;split<;>rfl⟩
  · simp only[C0];rw[if_neg (by omega),if_pos (by omega)];exact nofun
  · simp only[C0]at hi;rw[if_neg (by omega),if_pos (by omega)]at hi;cases hi
 obtain⟨h1,D1,e1,k1,k2,bk1,k3⟩:=Dv h h.next x l hl hr hx l.length [] l C0 _ rfl rfl hb0
 obtain⟨h2,D2,e2,k4,k5,bk2,k6,k7⟩:=Cp h h.next l hl 15 0 D1 h1 rfl bk1 (by rw[k3 48 (.inr rfl)];rfl) (fun i hi=>by
  obtain rfl:i=0:=by omega
  rw[k3 0 (.inl (by omega))];rfl)
 have kx:aK (aQ AP.A) bz AP.f41.body (params 0 [x]) h.dX=some (.ret,[(2,.aC h.next 0)],h2):=by
  unfold AP.f41
  refine ue (e1:=[(0,x)]) (h1:=h.dX) rfl ?_
  refine ue (e1:=[(0,x),(3,.aC h.next 0)]) (h1:=h.dX.alloc (mY 49 C0)) rfl ?_
  refine ue (e1:=[(3,.aC h.next 0)]) (h1:=h1) ?_ ?_
  · refine ue (e1:=[(3,.aC h.next 0),(10,x),(11,I l.length),(12,I 0)]) (h1:=h.dX.alloc (mY 49 C0)) ?_ ?_
    · simp [aK,au,ai,ah,hx.len,I]
    · have:=pQ (k:=[3]) k1
      simp only[qT,rA,k2]at this
      exact this
  refine ue (e1:=[(3,.aC h.next 0),(6,I 0)]) (h1:=h1) rfl ?_
  refine ue (e1:=[(3,.aC h.next 0)]) (h1:=h2) ?_ ?_
  · refine ue (e1:=[(3,.aC h.next 0),(6,I 0),(7,I 1)]) (h1:=h1) rfl ?_
    have:=pQ (k:=[3]) k4
    simp only[qT,rA,k5]at this
    exact this
  exact ue (e1:=[(2,.aC h.next 0)]) (h1:=h2) rfl rfl
 have hsn:snap h2.get h.next 16 true (.aC h.next 0)=some (vJ l):=by
  have hm:fJ (snap h2.get h.next 15 false) (mY 49 D2)=some (mY 49 (xy l)):=by
   refine Gu 49 fun i hi=> ?_
   by_cases c1:i<16
   · rw[k7 i (by omega),xy,if_pos c1];rfl
   by_cases c2:i<32
   · have:=bk2.Lv (i-16) (by omega)
     rw[show 16+(i-16)=i by omega]at this
     rw[this,xy,if_neg c1,if_pos c2];rfl
   by_cases c3:i<48
   · have:=bk2.own (i-32) (by omega)
     rw[show 32+(i-32)=i by omega]at this
     rw[xy,if_neg c1,if_neg c2,if_pos c3]
     exact Fo (n:=13) this (by rw[bk2.fl];exact uF _) (xh _ _ _ _ _)
   · obtain rfl:i=48:=by omega
     rw[k6,xy,if_neg c1,if_neg c2,if_neg c3];rfl
  simp only[snap,if_neg (Nat.lt_irrefl _),bk2.get,uC,hm,vJ]
 exact tM (fn:=AP.f41) rfl rfl rfl kx rfl hsn
theorem xr (w n:Nat) (h:n<2^w):(BitVec.ofInt w (n:Int)).toNat=n:=by
 rw[BitVec.ofInt_natCast,BitVec.toNat_ofNat,Nat.mod_eq_of_lt h]
theorem u5 {n:Nat} (h:n<9223372036854775808):IntKind.wrap .i64 (n:Int)=n:=tx (by omega) (by omega)
theorem wrap_u8 {n:Nat} (h:n<256):IntKind.wrap .u8 (n:Int)=n:=by
 have e:IntKind.wrap .u8 (n:Int)=(n:Int)%256:=by simp [IntKind.wrap,IntKind.bits,IntKind.signed]
 rw[e];omega
theorem JE (n:Int):IntKind.wrap .u8 n=n%256:=by simp [IntKind.wrap,IntKind.bits,IntKind.signed]
theorem BD {a b:Nat} (ha:a<9223372036854775808) (hb:b<9223372036854775808):bits .or .i64 (a:Int) (b:Int)=((a|||b:Nat):Int):=by
 have h1:a<2^63:=by simpa using ha
 have h2:b<2^63:=by simpa using hb
 have h3:a|||b<2^63:=Nat.or_lt_two_pow h1 h2
 show IntKind.wrap .i64 (((BitVec.ofInt 64 (a:Int)|||BitVec.ofInt 64 (b:Int)).toNat:Nat):Int)=_
 rw[BitVec.toNat_or,xr 64 a (by omega),xr 64 b (by omega)]
 exact u5 (by simpa using h3)
theorem C7 {a b:Nat} (ha:a<256) (hb:b<256):bits .and .u8 (a:Int) (b:Int)=((a&&&b:Nat):Int):=by
 have h3:a&&&b<2^8:=Nat.and_lt_two_pow _ (by simpa using hb)
 show IntKind.wrap .u8 (((BitVec.ofInt 8 (a:Int)&&&BitVec.ofInt 8 (b:Int)).toNat:Nat):Int)=_
 rw[BitVec.toNat_and,xr 8 a (by omega),xr 8 b (by omega)]
 exact wrap_u8 (by simpa using h3)
theorem IX {x b i:Nat} (hx:x<2^i):x|||b* 2^i=x+b* 2^i:=by
 have:=Nat.two_pow_add_eq_or_of_lt hx b
 rw[Nat.or_comm,Nat.mul_comm b,←this,Nat.add_comm]
@[simp] theorem HT {k j : IntKind} {a b : Int} : bp .shr (.int k a) (.int j b) = oV .shr k a b := rfl
@[simp] theorem HS {k j : IntKind} {a b : Int} : bp .shl (.int k a) (.int j b) = oV .shl k a b := rfl
attribute [go_sem] HS HT
theorem Jj {a s:Nat} (hs:s≤8):oV .shr .u8 (a:Int) (s:Int)=some (.int .u8 ((a/2^s:Nat):Int)):=by
 unfold oV
 rw[if_neg (by omega)]
 simp only[IntKind.bits,Vh,Nat.min_eq_left hs]
 congr 2
 rw[Int.fdiv_eq_ediv_of_nonneg _ (Int.pow_nonneg (by omega))]
 simp
theorem yq {a s:Nat} (hs:s≤64) (h:a* 2^s<9223372036854775808):oV .shl .i64 (a:Int) (s:Int)=some (.int .i64 ((a* 2^s:Nat):Int)):=by
 unfold oV
 rw[if_neg (by omega)]
 simp only[IntKind.bits,Vh,Nat.min_eq_left hs]
 congr 2
 rw[←u5 h];simp
def wz (s:ByteArray) (p:Nat):Nat:=((s[p/8]?).map (·.toNat)).getD 0/2^(p%8)%2
theorem BS (s:ByteArray) (p:Nat):wz s p≤1:=by unfold wz;omega
def vi (s:ByteArray) (p:Nat):Nat→Nat
 |0=>0
 |n+1=>vi s p n+wz s (p+n)* 2^n
theorem vU (s:ByteArray) (p:Nat):∀n,vi s p n<2^n
 |0=>by simp [vi]
 | n + 1 => by
   have h:=vU s p n
   have b:=BS s (p+n)
   have hb:wz s (p+n)=0∨wz s (p+n)=1:=by omega
   rw[vi,Nat.pow_succ]
   rcases hb with hb|hb<;>rw[hb]<;>omega
theorem Fx (l:List Int) (n:Nat):(syms l n).length=xZ l n:=by
 have key:∀(l:List Int) (k:Nat),((l.zipIdx k).filterMap fun p=>if p.1=(n:Int)then some (p.2:Int)else none).length=l.countP (fun x=>x==(n:Int)):=by
  intro l
  induction l with
  |nil=>intro k;rfl
  | cons x l ih =>
    intro k
    rw[List.zipIdx_cons,List.filterMap_cons,List.countP_cons]
    by_cases h:x=(n:Int)
    · simp only[if_pos h,UR,ih (k+1)];simp [h]
    · simp only[if_neg h,ih (k+1)];simp [h]
 unfold syms xZ
 split
 · rfl
 · exact key l 0
def yb (l:List Int) (n:Nat) (v:Int):Option Int:=if vw l n≤v then(syms l n)[(v-vw l n).toNat]? else none
set_option maxHeartbeats 1000000 in
theorem Nw (h:H) (l:List Int) (hl:l.length<100000) (n:Nat) (hn1:1≤n) (hn:n≤15) (v:Int) (hv0:0≤v) (hv:v<1000000):
 aQ AP.A 72 [vJ l,I n,I v] h=some (match yb l n v with|some y=>.bO [I y,.bool true]|none=>.bO [I 0,.bool false],h):=by
 have hp:=A9 hn
 have hf:=AX hl n
 have hc:=zq l n
 have hsc:=Fx l n
 have c1:¬((n:Int)<1):=by omega
 have c2:¬(15:Int)<n:=by omega
 have a1:dc (I n) 16=some n:=ki (by omega)
 have e1:xy l n=I (vw l n):=by rw[xy,if_pos (by omega)]
 have e2:xy l (16+n)=I (xZ l n):=by rw[xy,if_neg (by omega),if_pos (by omega),show 16+n-16=n by omega]
 have e3:xy l (32+n)=CK (ints (syms l n)):=by rw[xy,if_neg (by omega),if_neg (by omega),if_pos (by omega),show 32+n-32=n by omega]
 have g1:(mY 49 (xy l))[n]?=some (I (vw l n)):=by rw[fS (by omega),e1]
 have g2:(mY 49 (xy l))[16+n]?=some (I (xZ l n)):=by rw[fS (by omega),e2]
 have g3:(mY 49 (xy l))[32+n]?=some (CK (ints (syms l n))):=by rw[fS (by omega),e3]
 have hb:vJ l=.aJ (mY 49 (xy l)) 0:=rfl
 rw[hb]
 clear hb e1 e2 e3
 generalize mY 49 (xy l)=T at g1 g2 g3 ⊢
 by_cases k1:v<vw l n
 · have:yb l n v=none:=by rw[yb,if_neg (by omega)]
   rw[this]
   refine tr (fn:=AP.f72) (e:=[(6,I 0),(7,.bool false)]) rfl rfl rfl ?_ rfl
   simp only[I]at *
   simp only[AP.f72,go_sem,UQ c1,UQ c2,a1,g1,US k1]
 have w1:IntKind.wrap .i64 (v-vw l n)=v-vw l n:=tx (by omega) (by omega)
 by_cases k2:(xZ l n:Int)≤v-vw l n
 · have:yb l n v=none:=by rw[yb,if_pos (by omega),List.getElem?_eq_none (by omega)]
   rw[this]
   refine tr (fn:=AP.f72) (e:=[(6,I 0),(7,.bool false)]) rfl rfl rfl ?_ rfl
   simp only[I]at *
   simp only[AP.f72,go_sem,UQ c1,UQ c2,a1,g1,g2,UQ k1,w1,US k2]
 · obtain⟨i,hi⟩:∃i:Nat,v-vw l n=i:=U9 (by omega)
   have hil:i<(syms l n).length:=by omega
   obtain⟨y,hy⟩:∃y,(syms l n)[i]?=some y:=⟨_,Vb hil⟩
   have:yb l n v=some y:=by rw[yb,if_pos (by omega),hi,Vh,hy]
   rw[this]
   have hne:ints (syms l n)≠[]:=by intro e;have:=Vi List.length e;simp at this;simp [this]at hil
   have hs:CK (ints (syms l n))=.aU false (ints (syms l n)) 0 (ints (syms l n)).length 1:=by rw[CK,if_neg hne]
   rw[hs]at g3
   have a2:fU 1 (.aU false (ints (syms l n)) 0 (ints (syms l n)).length 1) (I i)=some (.aJ (ints (syms l n)) i):=by
    simp [fU,ki (show i<(syms l n).length from hil)]
   have g4:=sG hy
   rw[hi]at w1 k2
   refine tr (fn:=AP.f72) (e:=[(6,I y),(7,.bool true)]) rfl rfl rfl ?_ rfl
   simp only[I]at *
   simp only[AP.f72,go_sem,UQ c1,UQ c2,a1,g1,g2,UQ k1,hi,w1,UQ k2,g3,a2,g4]
attribute [local congr] tc
theorem xn (a b:Nat):Int.tdiv (a:Int) (b:Int)=((a/b:Nat):Int):=by simp
theorem yV (a b:Nat):Int.tmod (a:Int) (b:Int)=((a%b:Nat):Int):=by rw[Int.tmod_eq_emod_of_nonneg (by omega)];simp
theorem Gb {s:ByteArray} {i:Nat} (h:i<s.size):∃b:UInt8,s[i]?=some b:=⟨s[i],by simp [h]⟩
set_option maxHeartbeats 1000000 in
theorem Iz (h:H) (r:Nat) (s:ByteArray) (p x i n:Nat) (hg:h.get r=some [.str s,I p]) (hf:h.floor≤r) (hp:p<8* s.size) (hs:s.size<1125899906842624) (hx:x<2^i) (hi:i<n) (hn:n≤16):
 aK (aQ AP.A) bz AP.f58L0 [(0,.aC r 0),(6,I x),(32,I n),(33,I i)] h=some (.normal,[(0,.aC r 0),(6,I (x+wz s p* 2^i:Nat)),(32,I n),(33,I (i+1:Nat))],h.set r [.str s,I (p+1:Nat)]):=by
 obtain⟨b,hb⟩:=Gb (s:=s) (i:=p/8) (by omega)
 have hb8:b.toNat<256:=b.toNat_lt
 have hbit:wz s p=b.toNat/2^(p%8)%2:=by simp [wz,hb]
 have t1:Int.tdiv (p:Int) 8=((p/8:Nat):Int):=xn p 8
 have t2:Int.tmod (p:Int) 8=((p%8:Nat):Int):=yV p 8
 have w1:IntKind.wrap .i64 ((p/8:Nat):Int)=((p/8:Nat):Int):=u5 (by omega)
 have a1:dc (I (p/8:Nat)) s.size=some (p/8):=ki (by omega)
 have s1:oV .shr .u8 (b.toNat:Int) ((p%8:Nat):Int)=some (.int .u8 ((b.toNat/2^(p%8):Nat):Int)):=Jj (by omega)
 have hlt:b.toNat/2^(p%8)<256:=Nat.lt_of_le_of_lt (Nat.div_le_self _ _) hb8
 have n1:bits .and .u8 ((b.toNat/2^(p%8):Nat):Int) 1=((wz s p:Nat):Int):=by
  have:=C7 (b:=1) hlt (by omega)
  rw[Nat.and_one_is_mod]at this
  rw[hbit];exact this
 have hbl:=BS s p
 have w2:IntKind.wrap .i64 ((wz s p:Nat):Int)=((wz s p:Nat):Int):=u5 (by omega)
 have hpow:(2:Nat)^i≤2^16:=U4 (by omega) (by omega)
 have hmul:wz s p* 2^i≤2^i:=by
  have:=uI (2^i) hbl;simpa using this
 have s2:oV .shl .i64 ((wz s p:Nat):Int) (i:Int)=some (.int .i64 ((wz s p* 2^i:Nat):Int)):=yq (by omega) (by omega)
 have o1:bits .or .i64 (x:Int) ((wz s p* 2^i:Nat):Int)=((x+wz s p* 2^i:Nat):Int):=by
  rw[BD (by omega) (by omega),IX hx]
 have w3:IntKind.wrap .i64 ((p:Int)+1)=((p+1:Nat):Int):=u5 (n:=p+1) (by omega)
 have w4:IntKind.wrap .i64 ((i:Int)+1)=((i+1:Nat):Int):=u5 (n:=i+1) (by omega)
 generalize hB:wz s p=B at *
 generalize hD:b.toNat/2^(p%8)=D at *
 generalize hE:p/8=E at *
 generalize hF:p%8=F at *
 generalize hO:x+B* 2^i=O at *
 generalize hM:B* 2^i=W at *
 simp only[I]at *
 simp [AP.f58L0,aK,au,aM,ai,ah,hg,rH,rI,t1,t2,w1,lT,a1,hb,s1,n1,w2,s2,o1,w3,w4,hi,hf]
theorem ET (r:Nat) (s:ByteArray) (p n:Nat) (hs:s.size<1125899906842624) (hp:p+n≤8* s.size) (hn:n≤16):∀(k i:Nat) (h:H),i+k=n→h.get r=some [.str s,I (p+i:Nat)]→h.floor≤r→
 ∃e',Lp AP.A [0,6,32,33] AP.f58L0 [(0,.aC r 0),(6,I (vi s p i:Nat)),(32,I n),(33,I i)] h=some (.exit 1,e',h.set r [.str s,I (p+n:Nat)])∧look e' 6=I (vi s p n:Nat)
 | 0, i, h, hk, hg, hf => by
   obtain rfl:i=n:=by omega
   refine⟨[(0,.aC r 0),(6,I (vi s p i:Nat)),(32,I i),(33,I i),(34,.bool false)],sY ?_,rfl⟩
   rw[H.jC hg]
   simp [AP.f58L0,aK,au,ai,ah,I]
 | k + 1, i, h, hk, hg, hf => by
   have st:=Iz h r s (p+i) (vi s p i) i n hg hf (by omega) hs (vU s p i) (by omega) hn
   obtain⟨e',k1,k2⟩:=ET r s p n hs hp hn k (i+1) (h.set r [.str s,I (p+i+1:Nat)]) (by omega) (by rw[H.dE,if_pos rfl,hg];rfl) (by simpa using hf)
   rw[H.set_set]at k1
   exact⟨e',sZ st k1,k2⟩
theorem Ps (h:H) (r:Nat) (s:ByteArray) (p n:Nat) (hg:h.get r=some [.str s,I p]) (hf:h.floor≤r) (hs:s.size<1125899906842624) (hp:p+n≤8* s.size) (hn:n≤16):
 aQ AP.A 58 [.aC r 0,I n] h=some (.bO [I (vi s p n:Nat),I 0],h.set r [.str s,I (p+n:Nat)]):=by
 obtain⟨e',k1,k2⟩:=ET r s p n hs hp hn n 0 h (by omega) hg hf
 have l1:=pQ (k:=[6]) k1
 simp only[qT,rA,k2]at l1
 have c0:¬(n:Int)<0:=by omega
 have c1:¬(16:Int)<n:=by omega
 have w1:IntKind.wrap .i64 (8* (s.size:Int))=((8* s.size:Nat):Int):=u5 (n:=8* s.size) (by omega)
 have w2:IntKind.wrap .i64 (((8* s.size:Nat):Int)-p)=((8* s.size-p:Nat):Int):=by
  rw[←Int.ofNat_sub (by omega)];exact u5 (by omega)
 have c2:¬((8* s.size-p:Nat):Int)<n:=by omega
 refine tr (fn:=AP.f58) (e:=[(4,I (vi s p n:Nat)),(5,I 0)]) rfl rfl rfl ?_ rfl
 unfold AP.f58
 refine ue (e1:=[(0,.aC r 0),(1,I n)]) (h1:=h) rfl ?_
 refine ue (e1:=[(0,.aC r 0),(1,I n)]) (h1:=h) ?_ ?_
 · generalize hM:8* s.size-p=W at *
   generalize hM2:8* s.size=W2 at *
   simp only[I]at *
   simp [aK,au,aM,ai,ah,fI,o0,hg,jc,w1,w2,c0,c1,c2]
 refine ue (e1:=[(0,.aC r 0),(1,I n),(6,I 0)]) (h1:=h) rfl ?_
 refine ue (e1:=[(6,I (vi s p n:Nat))]) (h1:=h.set r [.str s,I (p+n:Nat)]) ?_ ?_
 · refine ue (e1:=[(0,.aC r 0),(6,I 0),(32,I n),(33,I 0)]) (h1:=h) rfl ?_
   exact l1
 exact ue (e1:=[(4,I (vi s p n:Nat)),(5,I 0)]) (h1:=h.set r [.str s,I (p+n:Nat)]) rfl rfl
theorem Kb (h:H) (r:Nat) (s:ByteArray) (p n:Nat) (hg:h.get r=some [.str s,I p]) (hs:s.size<1125899906842624) (hp0:p≤8* s.size) (hp:8* s.size<p+n) (hn:n≤16):
 aQ AP.A 58 [.aC r 0,I n] h=some (.bO [I 0,I 101],h):=by
 have c0:¬(n:Int)<0:=by omega
 have c1:¬(16:Int)<n:=by omega
 have w1:IntKind.wrap .i64 (8* (s.size:Int))=((8* s.size:Nat):Int):=u5 (n:=8* s.size) (by omega)
 have w2:IntKind.wrap .i64 (((8* s.size:Nat):Int)-p)=((8* s.size-p:Nat):Int):=by
  rw[←Int.ofNat_sub (by omega)];exact u5 (by omega)
 have c2:((8* s.size-p:Nat):Int)<n:=by omega
 refine tr (fn:=AP.f58) (e:=[(4,I 0),(5,I 101)]) rfl rfl rfl ?_ rfl
 unfold AP.f58
 refine ue (e1:=[(0,.aC r 0),(1,I n)]) (h1:=h) rfl ?_
 refine uf ?_
 generalize hM:8* s.size-p=W at *
 generalize hM2:8* s.size=W2 at *
 simp only[I]at *
 simp [aK,au,aM,ai,ah,fI,o0,hg,jc,w1,w2,c0,c1,c2]
attribute [local congr] tc
theorem vZ {A:bb} {f:Nat} {fn:fh} {args:List AV} {h h2:H} {e:Env} {vs:List AV} (hf:A f=some fn) (hnp:args.length=fn.np) (hp:fn.pure=false)
 (hx:aK (aQ A) bz fn.body (params 0 args) h=some (.normal,e,h2)) (hres:cL e h2 fn.res=some vs):aQ A f args h=some (dA vs,h2):=by
 refine kt hf ?_
 unfold fa
 rw[if_pos hnp]
 simp [hp,hx,fin,hres]
def yH (l:List Nat):List AV:=l.map fun (b:Nat)=>AV.int .u8 (b:Int)
@[simp] theorem xu (l : List Nat) : (yH l).length = l.length := by simp [yH]
structure SS where
 at_:Nat
 out:List Nat
 e:Int
structure SC where
 s:Nat
 r:Nat
 text:ByteArray
 most:Int
structure St (c:SC) (S:SS) (h:H) (ov:AV):Prop where
 gs:h.get c.s=some [.aC c.r 0,ov,I c.most,I S.e]
 gr:h.get c.r=some [.str c.text,I S.at_]
 own:mX h ov (yH S.out)
 sr:c.s≠c.r
 fs:h.floor≤c.s
 fr:h.floor≤c.r
 os:ov.id?≠some c.s
 or:ov.id?≠some c.r
 nx:h.floor≤h.next
 sz:c.text.size<1125899906842624
 wP:S.at_≤8* c.text.size
 ol:(S.out.length:Int)≤c.most
 ml:c.most≤900000
structure Fr (c:SC) (h:H) (ov:AV) (h':H) (ov':AV):Prop where
 fl:h'.floor=h.floor
 nx:h.next≤h'.next
 Bt:∀id,id<h.next→id≠c.s→id≠c.r→ov.id?≠some id→h'.get id=h.get id
 nb:∀i,ov'.id?=some i→ov.id?=some i∨h.next≤i
theorem Fr.refl (c:SC) (h:H) (ov:AV):Fr c h ov h ov:=⟨rfl,uF _,fun _ _ _ _ _=>rfl,fun _ q=>.inl q⟩
theorem Fr.trans {c:SC} {h1 h2 h3:H} {o1 o2 o3:AV} (a:Fr c h1 o1 h2 o2) (b:Fr c h2 o2 h3 o3):Fr c h1 o1 h3 o3:=by
 refine⟨b.fl.trans a.fl,uX a.nx b.nx,fun id h4 h5 h6 h7=> ?_,fun i hi=> ?_⟩
 · rw[b.Bt id (Nat.lt_of_lt_of_le h4 a.nx) h5 h6 (fun q=> ?_),a.Bt id h4 h5 h6 h7]
   rcases a.nb id q with q|q
   · exact h7 q
   · omega
 · rcases b.nb i hi with q|q
   · exact a.nb i q
   · exact .inr (uX a.nx q)
theorem St.SD {c:SC} {S:SS} {h:H} {ov:AV} (st:St c S h ov) (e:Int):St c {S with e:=e} (h.set c.s [.aC c.r 0,ov,I c.most,I e]) ov∧Fr c h ov (h.set c.s [.aC c.r 0,ov,I c.most,I e]) ov:=by
 refine⟨⟨by rw[H.dE,if_pos rfl,st.gs];rfl,by rw[H.dE,if_neg (Ne.symm st.sr)];exact st.gr,st.own.mono (by simp) fun i hi=> ?_,st.sr,by simpa using st.fs,by simpa using st.fr,st.os,st.or,by simpa using st.nx,st.sz,st.wP,st.ol,st.ml⟩,⟨by simp,by simp,fun id h1 h2 h3 h4=>by rw[H.dE,if_neg h2],fun _ q=>.inl q⟩⟩
 rw[H.dE,if_neg];intro (e:i=c.s);exact st.os (e ▸ hi)
theorem St.PV {c:SC} {S:SS} {h:H} {ov:AV} (st:St c S h ov) {p:Nat} (hp:p≤8* c.text.size):St c {S with at_:=p} (h.set c.r [.str c.text,I p]) ov∧Fr c h ov (h.set c.r [.str c.text,I p]) ov:=by
 refine⟨⟨by rw[H.dE,if_neg st.sr];exact st.gs,by rw[H.dE,if_pos rfl,st.gr];rfl,st.own.mono (by simp) fun i hi=> ?_,st.sr,by simpa using st.fs,by simpa using st.fr,st.os,st.or,by simpa using st.nx,st.sz,hp,st.ol,st.ml⟩,⟨by simp,by simp,fun id h1 h2 h3 h4=>by rw[H.dE,if_neg h3],fun _ q=>.inl q⟩⟩
 rw[H.dE,if_neg];intro (e:i=c.r);exact st.or (e ▸ hi)
def vo (k:Int) (S:SS):SS:=if S.e=0 then {S with e:=k}else S
theorem xp {c:SC} {S:SS} {h:H} {ov:AV} (st:St c S h ov) (k:Int):∃h',aQ AP.A 45 [.aC c.s 0,I k] h=some (.bO [],h')∧St c (vo k S) h' ov∧Fr c h ov h' ov:=by
 have gs:=st.gs
 have fs:=st.fs
 by_cases he:S.e=0
 · refine⟨_, ?_,by rw[vo,if_pos he];exact(st.SD k).1,(st.SD k).2⟩
   refine vZ (fn:=AP.f45) (e:=[]) rfl rfl rfl ?_ rfl
   simp only[I]at *
   simp [AP.f45,params,aK,au,ai,ah,gs,he,fs]
 · refine⟨h, ?_,by rw[vo,if_neg he];exact st,Fr.refl _ _ _⟩
   refine vZ (fn:=AP.f45) (e:=[]) rfl rfl rfl ?_ rfl
   simp only[I]at *
   simp [AP.f45,params,aK,au,ai,ah,gs,he,fs]
def vm (c:SC) (n:Nat) (S:SS):Nat×SS:=if S.at_+n≤8* c.text.size then(vi c.text S.at_ n,{S with at_:=S.at_+n})else(0,vo 700 S)
theorem Iy {c:SC} {S:SS} {h:H} {ov:AV} (st:St c S h ov) {n:Nat} (hn:n≤16):∃h',aQ AP.A 38 [.aC c.s 0,I n] h=some (I ((vm c n S).1:Nat),h')∧St c (vm c n S).2 h' ov∧Fr c h ov h' ov:=by
 have gs:=st.gs
 by_cases hp:S.at_+n≤8* c.text.size
 · have g:=Ps h c.r c.text S.at_ n st.gr st.fr st.sz hp hn
   refine⟨_, ?_,by rw[vm,if_pos hp];exact(st.PV hp).1,(st.PV hp).2⟩
   rw[vm,if_pos hp]
   refine tr (fn:=AP.f38) (e:=[(4,I (vi c.text S.at_ n:Nat))]) rfl rfl rfl ?_ rfl
   simp only[I]at *
   simp [AP.f38,params,aK,au,ai,ah,gs,aW,g]
 · have g:=Kb h c.r c.text S.at_ n st.gr st.sz st.wP (by omega) hn
   obtain⟨h',k1,k2,k3⟩:=xp st 700
   refine⟨h', ?_,by rw[vm,if_neg hp];exact k2,k3⟩
   rw[vm,if_neg hp]
   refine tr (fn:=AP.f38) (e:=[(4,I 0)]) rfl rfl rfl ?_ rfl
   simp only[I]at *
   simp [AP.f38,params,aK,au,ai,ah,gs,aW,g,k1]
def CD (c:SC) (b:Nat) (S:SS):SS:=
 let T:=if c.most≤S.out.length then vo 701 S else S
 if T.e=0 then {T with out:=T.out++[b]}else T
theorem mX.len {h:H} {v:AV} {cs:List AV} (o:mX h v cs):jc false v=some (I cs.length):=by
 rcases o with ⟨rfl,rfl⟩|⟨id,rfl,_⟩<;>rfl
theorem I4 {c : SC} {S : SS} {h : H} {ov : AV} (st : St c S h ov) {b : Nat} : ∃ h' ov', aQ AP.A 59 [.aC c.s 0, .int .u8 b] h = some (.bO [], h') ∧ St c (CD c b S) h' ov' ∧ Fr c h ov h' ov' := by
 have gs0:=st.gs
 have hol:=st.ol
 have hml:=st.ml
 have ln:=st.own.len
 rw[xu]at ln
 by_cases hm:c.most≤S.out.length
 · obtain⟨h1,k1,k2,k3⟩:=xp st 701
   have he:(vo 701 S).e≠0:=by unfold vo;split<;>simp_all
   have hp:CD c b S=vo 701 S:=by unfold CD;simp only[if_pos hm,if_neg he]
   have gs1:=k2.gs
   refine⟨h1,ov, ?_,by rw[hp];exact k2,k3⟩
   refine vZ (fn:=AP.f59) (e:=[]) rfl rfl rfl ?_ rfl
   simp only[I]at *
   simp [AP.f59,params,aK,au,aM,ai,ah,gs0,ln,hm,aW,k1,gs1,he]
 by_cases he:S.e=0
 · have hp:CD c b S={S with out:=S.out++[b]}:=by unfold CD;simp only[if_neg hm,if_pos he]
   have hsl:c.s<h.next:=h.lt _ _ st.gs
   have hrl:c.r<h.next:=h.lt _ _ st.gr
   obtain⟨h1,eh1⟩:∃g,g=h.alloc [.int .u8 b]:=⟨_,rfl⟩
   have hlo1:∀i,i≠h.next→h1.get i=h.get i:=fun i q=>by rw[eh1,H.aV,if_neg q]
   have hfl1:h1.floor=h.floor:=by rw[eh1];simp
   have hnx1:h1.next=h.next+1:=by rw[eh1];simp
   have ho1:mX h1 ov (yH S.out):=st.own.mono hfl1 fun i hi=>hlo1 i (by have:=st.own.lt hi;omega)
   have hnxf:=st.nx
   obtain⟨v',h2,q1,q2,q3,q4,q5,q6⟩:=ho1.app (by omega) (z:=1) (.int .u8 b) rfl (by simp [roomy];omega)
   have hal2:h1.get h.next=some [.int .u8 b]:=by rw[eh1,H.aV,if_pos rfl]
   have gs1:h1.get c.s=some [.aC c.r 0,ov,I c.most,I S.e]:=by rw[hlo1 _ (by omega)];exact st.gs
   have gs2:h2.get c.s=some [.aC c.r 0,ov,I c.most,I S.e]:=by rw[q5 _ st.os (by omega)];exact gs1
   have gr2:h2.get c.r=some [.str c.text,I S.at_]:=by rw[q5 _ st.or (by omega),hlo1 _ (by omega)];exact st.gr
   have fs2:h2.floor≤c.s:=by have:=st.fs;omega
   have hv':v'.cells=[v']∧v'.sc=true:=by
    rcases q2 with ⟨rfl,_⟩|⟨id,rfl,_⟩<;>exact⟨rfl,rfl⟩
   have hby:yH (S.out++[b])=yH S.out++[.int .u8 b]:=by simp [yH]
   refine⟨h2.set c.s [.aC c.r 0,v',I c.most,I S.e],v', ?_, ?_, ?_⟩
   · refine vZ (fn:=AP.f59) (e:=[]) rfl rfl rfl ?_ rfl
     simp only[I]at *
     simp [AP.f59,params,aK,au,aM,ai,ah,br,aX,dP,dY,kD,aR,gs0,ln,hm,he,←eh1,hal2,gs1,q1,gs2,fs2,hv'.1,hv'.2]
   · rw[hp]
     refine⟨by rw[H.dE,if_pos rfl,gs2];rfl,by rw[H.dE,if_neg (Ne.symm st.sr)];exact gr2, ?_,st.sr,by simpa using fs2,by have:=st.fr;simp;omega, ?_, ?_,by simp;omega,st.sz,st.wP,by simp;omega,st.ml⟩
     · rw[hby]
       refine q2.mono (by simp) fun i hi=> ?_
       rw[q6]at hi;cases hi
       rw[H.dE,if_neg (by omega)]
     · rw[q6];intro e;have:=uv e;omega
     · rw[q6];intro e;have:=uv e;omega
   · refine⟨by simp;omega,by simp;omega,fun id a1 a2 a3 a4=> ?_,fun i hi=> ?_⟩
     · rw[H.dE,if_neg a2,q5 id a4 (by omega),hlo1 id (by omega)]
     · rw[q6]at hi;cases hi;right;omega
 · have hp:CD c b S=S:=by unfold CD;simp only[if_neg hm,if_neg he]
   refine⟨h,ov, ?_,by rw[hp];exact st,Fr.refl _ _ _⟩
   refine vZ (fn:=AP.f59) (e:=[]) rfl rfl rfl ?_ rfl
   simp only[I]at *
   simp [AP.f59,params,aK,au,aM,ai,ah,gs0,ln,hm,he]
theorem Td (h:H) (s:ByteArray):aQ AP.A 14 [.str s] h=some (.aC h.next 0,h.alloc [.str s,I 0]):=by
 refine tr (fn:=AP.f14) (e:=[(2,.aC h.next 0)]) rfl rfl rfl ?_ rfl
 have b:aX [(4,.agg [.str s,I 0]),(3,.str s),(0,.str s)] (.box 2 (.t 4))=some ([.str s,I 0],fun i=>.aC i 0):=rfl
 have f:dY [.str ⟨#[]⟩,.int .i64 0] [(0,1,.str s)]=some [.str s,I 0]:=rfl
 simp only[I]at *
 simp only[AP.f14,go_sem,U5,Vf,f,b]
theorem JI (h:H) (r:Nat) (s:ByteArray) (p:Nat) (hg:h.get r=some [.str s,I p]) (hf:h.floor≤r) (hs:s.size<1125899906842624) (hp:p≤8* s.size):
 aQ AP.A 16 [.aC r 0] h=some (I 0,h.set r [.str s,I ((p+7)/8* 8:Nat)]):=by
 refine tr (fn:=AP.f16) (e:=[(2,I 0)]) rfl rfl rfl ?_ rfl
 have w1:IntKind.wrap .i64 ((p:Int)+8)=((p+8:Nat):Int):=u5 (n:=p+8) (by omega)
 have w2:IntKind.wrap .i64 (((p+8:Nat):Int)-1)=((p+7:Nat):Int):=by
  rw[show((p+8:Nat):Int)-1=((p+7:Nat):Int)by omega];exact u5 (by omega)
 have w3:IntKind.wrap .i64 (((p+7:Nat):Int).tdiv 8)=(((p+7)/8:Nat):Int):=by
  rw[show(8:Int)=((8:Nat):Int)from rfl,xn];exact u5 (by omega)
 have w4:IntKind.wrap .i64 ((((p+7)/8:Nat):Int)* 8)=(((p+7)/8* 8:Nat):Int):=by
  rw[show(((p+7)/8:Nat):Int)* 8=(((p+7)/8* 8:Nat):Int)by omega];exact u5 (by omega)
 have st:∀v,tO h r 1 1 [.int .i64 v] (some [.str s,.int .i64 p])=some (h.set r [.str s,.int .i64 v]):=fun v=>uh hf (by simp) rfl
 have q:bp .quo (.int .i64 ((p+7:Nat):Int)) (.int .i64 8)=some (.int .i64 (((p+7)/8:Nat):Int)):=by rw[rH _ _ _ (by omega),w3]
 simp only[I]at *
 simp only[AP.f16,go_sem,hg,w1,w2,q,w4,st]
theorem SX (h:H) (r:Nat) (s:ByteArray) (p:Nat) (hg:h.get r=some [.str s,I p]):aQ AP.A 17 [.aC r 0] h=some (I p,h):=by
 refine tr (fn:=AP.f17) (e:=[(2,I p)]) rfl rfl rfl ?_ rfl
 simp only[I]at *
 simp only[AP.f17,go_sem,hg]
theorem yP {c:SC} {S:SS} {h:H} {ov:AV} (st:St c S h ov) (n:Nat) (m:Int) (hm:m=n) (hn:n≤16):∃h',aQ AP.A 38 [.aC c.s 0,I m] h=some (I ((vm c n S).1:Nat),h')∧St c (vm c n S).2 h' ov∧Fr c h ov h' ov:=by
 subst hm;exact Iy st hn
theorem GS {c:SC} {S:SS} {h:H} {ov:AV} (st:St c S h ov) {n least:Nat} (hn:n≤16) (hl:least<100000):∃h',aQ AP.A 73 [.aC c.s 0,I least,I n,I 0] h=some (I ((least+(vm c n S).1:Nat)),h')∧St c (vm c n S).2 h' ov∧Fr c h ov h' ov:=by
 obtain⟨h',k1,k2,k3⟩:=Iy st hn
 refine⟨h', ?_,k2,k3⟩
 have hb:(vm c n S).1<65536:=by
  unfold vm;split
  · have:=vU c.text S.at_ n
    have:=U4 (show 0<2 by omega) hn
    simp at *;omega
  · simp
 have w:IntKind.wrap .i64 ((least:Int)+((vm c n S).1:Nat))=((least+(vm c n S).1:Nat):Int):=by
  rw[show(least:Int)+((vm c n S).1:Nat)=((least+(vm c n S).1:Nat):Int)by omega];exact u5 (by omega)
 refine tr (fn:=AP.f73) (e:=[(8,I ((least+(vm c n S).1:Nat)))]) rfl rfl rfl ?_ rfl
 simp only[I]at *
 simp only[AP.f73,go_sem,k1,w]
theorem DN {c:SC} {S:SS} {h:H} {ov:AV} (st:St c S h ov) (he:S.e=0):∃h' S',aQ AP.A 73 [.aC c.s 0,I 0,I 0,I 600] h=some (I 0,h')∧St c S' h' ov∧Fr c h ov h' ov∧S'.e=700:=by
 obtain⟨h1,k1,k2,k3⟩:=xp st 700
 obtain⟨h',l1,l2,l3⟩:=Iy k2 (n:=0) (by omega)
 have hS:vo 700 S={S with e:=700}:=by rw[vo,if_pos he]
 have hle:=st.wP
 have hg:vm c 0 (vo 700 S)=(0,vo 700 S):=by
  rw[vm,if_pos (by rw[hS];exact hle)];rfl
 rw[hg]at l1 l2
 have l1':aQ AP.A 38 [.aC c.s 0,I 0] h1=some (I 0,h'):=l1
 clear l1
 refine⟨h',_, ?_,l2,k3.trans l3,by rw[hS]⟩
 have w:IntKind.wrap .i64 (0+0)=0:=tx (by omega) (by omega)
 refine tr (fn:=AP.f73) (e:=[(8,I 0)]) rfl rfl rfl ?_ rfl
 simp only[I]at *
 simp only[AP.f73,go_sem,k1,l1',w]
def xQ (t:ByteArray) (l:List Int):Nat→Nat→Nat→Nat→Option (Int×Nat)
 |0,_,_,_=>none
 |k+1,n,v,p=>if p+1≤8* t.size then(match yb l n ((v* 2+vi t p 1:Nat):Int)with|some y=>some (y,p+1)|none=>xQ t l k (n+1) (v* 2+vi t p 1) (p+1))else none
theorem Fw {c:SC} {S:SS} {h:H} {ov:AV} (st:St c S h ov) (l:List Int) (v n:Nat) (hs:n=16∨(n≤15∧S.e≠0)):
 ∃e',Lp AP.A [0,1,5,6] AP.f60L0 [(0,.aC c.s 0),(1,vJ l),(5,I v),(6,I n)] h=some (.exit 0,e',h)∧look e' 0=.aC c.s 0:=by
 have gs:=st.gs
 refine⟨[(0,.aC c.s 0),(1,vJ l),(5,I v),(6,I n),(17,.bool false)],sY ?_,rfl⟩
 rcases hs with hn|⟨hn,he⟩
 · have c1:¬(n:Int)≤15:=by omega
   simp only[I]at *
   simp only[AP.f60L0,go_sem,UQ c1]
 · have c1:(n:Int)≤15:=by omega
   have c2:(S.e==0)=false:=tT he
   simp only[I]at *
   simp only[AP.f60L0,go_sem,US c1,gs,c2]
theorem Fv {c : SC} (l : List Int) (hl : l.length < 100000) : ∀ (k n v : Nat) (S : SS) (h : H) (ov : AV), n + k = 16 → 1 ≤ n → v < 2 ^ (n - 1) → St c S h ov → S.e = 0 →
 ∃ h' S', St c S' h' ov ∧ Fr c h ov h' ov ∧ match xQ c.text l k n v S.at_ with
   |some (y,p)=>S'={S with at_:=p}∧∃e',Lp AP.A [0,1,5,6] AP.f60L0 [(0,.aC c.s 0),(1,vJ l),(5,I v),(6,I n)] h=some (.ret,e',h')∧look e' 4=I y
   |none=>(S'.e=0∨S'.e=700)∧∃e',Lp AP.A [0,1,5,6] AP.f60L0 [(0,.aC c.s 0),(1,vJ l),(5,I v),(6,I n)] h=some (.exit 0,e',h')∧look e' 0=.aC c.s 0
 | 0, n, v, S, h, ov, hk, hn, hv, st, he => by
   obtain⟨e',q1,q2⟩:=Fw st l v n (.inl (by omega))
   exact⟨h,S,st,Fr.refl _ _ _,by simp only[xQ];exact⟨.inl he,e',q1,q2⟩⟩
 | k + 1, n, v, S, h, ov, hk, hn, hv, st, he => by
   have gs:=st.gs
   obtain⟨h1,k1,k2,k3⟩:=yP st 1 1 rfl (by omega)
   obtain⟨x,hx⟩:∃x,x=(vm c 1 S).1:=⟨_,rfl⟩
   obtain⟨S1,hS1⟩:∃x,x=(vm c 1 S).2:=⟨_,rfl⟩
   rw[←hx]at k1;rw[←hS1]at k2
   have hp:2^n≤2^15:=U4 (by omega) (by omega)
   have h2:2^(n-1+1)=2^(n-1)* 2:=Nat.pow_succ 2 (n-1)
   rw[show n-1+1=n by omega]at h2
   obtain⟨P,hP⟩:∃P:Nat,P=2^(n-1):=⟨_,rfl⟩
   rw[←hP]at h2 hv
   obtain⟨Q,hQ⟩:∃Q:Nat,Q=2^n:=⟨_,rfl⟩
   rw[←hQ]at h2 hp
   simp only[Nat.reducePow]at hp
   have hx1:x<2:=by
    rw[hx];unfold vm;split
    · have:=vU c.text S.at_ 1;simpa using this
    · simp
   have hv':v* 2+x<Q:=by omega
   have w1:IntKind.wrap .i64 ((v:Int)* 2)=((v* 2:Nat):Int):=by
    rw[show(v:Int)* 2=((v* 2:Nat):Int)by omega];exact u5 (by omega)
   have w2:IntKind.wrap .i64 (((v* 2:Nat):Int)+(x:Int))=((v* 2+x:Nat):Int):=by
    rw[show((v* 2:Nat):Int)+(x:Int)=((v* 2+x:Nat):Int)by omega];exact u5 (by omega)
   have w3:IntKind.wrap .i64 ((n:Int)+1)=((n+1:Nat):Int):=u5 (n:=n+1) (by omega)
   have c1:(n:Int)≤15:=by omega
   have fc:=Nw h1 l hl n hn (by omega) ((v* 2+x:Nat):Int) (by omega) (by omega)
   have gs1:=k2.gs
   have step:(yb l n ((v* 2+x:Nat):Int)=none∨S1.e≠0)→aK (aQ AP.A) bz AP.f60L0 (ax [(0,.aC c.s 0),(1,vJ l),(5,I v),(6,I n)] [0,1,5,6]) h=some (.normal,[(0,.aC c.s 0),(1,vJ l),(5,I (v* 2+x:Nat)),(6,I (n+1:Nat))],h1):=by
    intro hc
    rcases hc with hc|hc
    · rw[hc]at fc
      simp only[I]at *
      simp only[AP.f60L0,go_sem,US c1,gs,he,k1,w1,w2,fc,w3]
    · have c2:(S1.e==0)=false:=tT hc
      cases hf:yb l n ((v* 2+x:Nat):Int)with
      | none =>
        rw[hf]at fc
        simp only[I]at *
        simp only[AP.f60L0,go_sem,US c1,gs,he,k1,w1,w2,fc,w3]
      | some y =>
        rw[hf]at fc
        simp only[I]at *
        simp only[AP.f60L0,go_sem,US c1,gs,he,k1,w1,w2,fc,w3,gs1,c2]
   by_cases hat:S.at_+1≤8* c.text.size
   · have eg:vm c 1 S=(vi c.text S.at_ 1,{S with at_:=S.at_+1}):=by rw[vm,if_pos hat]
     rw[eg]at hx hS1
     dsimp only at hx hS1
     subst hx hS1
     rw[xQ,if_pos hat]
     cases hf:yb l n ((v* 2+vi c.text S.at_ 1:Nat):Int)with
     | none =>
       obtain⟨h',S',q1,q2,q3⟩:=Fv l hl k (n+1) (v* 2+vi c.text S.at_ 1) _ h1 ov (by omega) (by omega) (by rw[Nat.add_sub_cancel,←hQ];exact hv') k2 he
       refine⟨h',S',q1,k3.trans q2, ?_⟩
       dsimp only at q3 ⊢
       have sp:=step (.inl hf)
       cases hy:xQ c.text l k (n+1) (v* 2+vi c.text S.at_ 1) (S.at_+1)with
       | none =>
         rw[hy]at q3
         obtain⟨q3,e',q4,q5⟩:=q3
         exact⟨q3,e',sZ sp q4,q5⟩
       | some y =>
         rw[hy]at q3
         obtain⟨q3,e',q4,q5⟩:=q3
         exact⟨q3,e',sZ sp q4,q5⟩
     | some y =>
       refine⟨h1,_,k2,k3,rfl,[(4,I y)],tC ?_,rfl⟩
       rw[hf]at fc
       simp only[I]at *
       simp only[AP.f60L0,go_sem,US c1,gs,he,k1,w1,w2,fc,w3,gs1]
   · have eg:vm c 1 S=(0,{S with e:=700}):=by rw[vm,if_neg hat,vo,if_pos he]
     rw[eg]at hx hS1
     dsimp only at hx hS1
     subst hx hS1
     rw[xQ,if_neg hat]
     have hst:n+1=16∨(n+1≤15∧(700:Int)≠0):=by omega
     obtain⟨e',q1,q2⟩:=Fw k2 l (v* 2+0) (n+1) hst
     exact⟨h1,_,k2,k3,.inr rfl,e',sZ (step (.inr (by simp))) q1,q2⟩
theorem CQ {c:SC} {S:SS} {h:H} {ov:AV} (l:List Int) (hl:l.length<100000) (st:St c S h ov) (he:S.e=0):
 ∃ h' S' y, aQ AP.A 60 [.aC c.s 0, vJ l] h = some (I y, h') ∧ St c S' h' ov ∧ Fr c h ov h' ov ∧ match xQ c.text l 15 1 0 S.at_ with
   |some (z,p)=>S'={S with at_:=p}∧y=z
   |none=>S'.e=700∧y=256:=by
 obtain⟨h1,S1,q1,q2,q3⟩:=Fv l hl 15 1 0 S h ov (by omega) (by omega) (by simp) st he
 cases hy:xQ c.text l 15 1 0 S.at_ with
 | some yp =>
   rw[hy]at q3
   obtain⟨q3,e',q4,q5⟩:=q3
   refine⟨h1,S1,yp.1, ?_,q1,q2,q3,rfl⟩
   refine tr (fn:=AP.f60) (e:=e') (vs:=[I yp.1]) rfl rfl rfl ?_ (by simp only[AP.f60,cL,mQ,q5];rfl)
   have q6:Lp AP.A [0,1,5,6] AP.f60L0 [(0,.aC c.s 0),(1,vJ l),(5,I 0),(6,I 1)] h=some (.ret,e',h1):=q4
   clear q4
   simp only[I]at *
   simp only[AP.f60,go_sem,rR,q6]
 | none =>
   rw[hy]at q3
   obtain⟨q3,e',q4,q5⟩:=q3
   obtain⟨h2,r1,r2,r3⟩:=xp q1 700
   refine⟨h2,vo 700 S1,256, ?_,r2,q2.trans r3, ?_,rfl⟩
   · refine tr (fn:=AP.f60) (e:=[(4,I 256)]) rfl rfl rfl ?_ rfl
     have q6:Lp AP.A [0,1,5,6] AP.f60L0 [(0,.aC c.s 0),(1,vJ l),(5,I 0),(6,I 1)] h=some (.exit 0,e',h1):=q4
     clear q4
     simp only[I]at *
     simp only[AP.f60,go_sem,rR,q6,q5,r1]
   · rcases q3 with q3|q3<;>simp [vo,q3]
def lenOf (y:Nat):Option (Nat×Nat):=
 if y≤256∨285<y then none else if y=285 then some (258,0)else if y<265 then some (y-254,0)else some (3+(4+(y-257)%4)* 2^((y-257)/4-1),(y-257)/4-1)
def xI (y:Nat):Option (Nat×Nat):=
 if 30≤y then none else if y<4 then some (1+y,0)else some (1+(2+y%2)* 2^(y/2-1),y/2-1)
theorem EZ {y a b:Nat} (h:lenOf y=some (a,b)):a≤258∧b≤5∧0<a:=by
 have key:∀y<286,∀a b,lenOf y=some (a,b)→a≤258∧b≤5∧0<a:=by
  intro y hy a b h
  have:((lenOf y).map fun p=>decide (p.1≤258∧p.2≤5∧0<p.1))=(lenOf y).map fun _=>true:=by
   clear h
   revert y
   decide+kernel
  rw[h]at this
  simpa using this
 by_cases hy:y<286
 · exact key y hy a b h
 · rw[lenOf,if_pos (by omega)]at h;cases h
theorem De {y a b:Nat} (h:xI y=some (a,b)):a≤24577∧b≤13∧0<a:=by
 have key:∀y<30,∀a b,xI y=some (a,b)→a≤24577∧b≤13∧0<a:=by
  intro y hy a b h
  have:((xI y).map fun p=>decide (p.1≤24577∧p.2≤13∧0<p.1))=(xI y).map fun _=>true:=by
   clear h
   revert y
   decide+kernel
  rw[h]at this
  simpa using this
 by_cases hy:y<30
 · exact key y hy a b h
 · rw[xI,if_pos (by omega)]at h;cases h
def zD (o:Option (Nat×Nat)):AV:=match o with
 |some p=>.bO [I p.1,I p.2,I 0]
 |none=>.bO [I 0,I 0,I 600]
theorem Kh (h:H) (y:Nat) (hy:y<1000000):aQ AP.A 74 [I y] h=some (zD (lenOf y),h):=by
 have d1:decide ((y:Int)≤256)=decide (y≤256):=by by_cases q:y≤256<;>simp [q]<;>omega
 have w1:IntKind.wrap .i64 ((y:Int)-256)=(y:Int)-256:=tx (by omega) (by omega)
 have w2:IntKind.wrap .i64 ((y:Int)-256-1)=(y:Int)-257:=by rw[show(y:Int)-256-1=(y:Int)-257 by omega];exact tx (by omega) (by omega)
 by_cases c1:y≤256
 · rw[lenOf,if_pos (.inl c1)]
   refine tM (fn:=AP.f74) (h2:=h.dX) (e:=[(2,I 0),(3,I 0),(4,I 600)]) rfl rfl rfl ?_ rfl rfl
   have c1':(y:Int)≤256:=by omega
   simp only[I]at *
   simp only[AP.f74,go_sem,w1,w2,US c1']
 have c1':¬(y:Int)≤256:=by omega
 by_cases c2:285<y
 · rw[lenOf,if_pos (.inr c2)]
   refine tM (fn:=AP.f74) (h2:=h.dX) (e:=[(2,I 0),(3,I 0),(4,I 600)]) rfl rfl rfl ?_ rfl rfl
   have c2':(285:Int)<y:=by omega
   simp only[I]at *
   simp only[AP.f74,go_sem,w1,w2,UQ c1',US c2']
 have c2':¬(285:Int)<y:=by omega
 rw[lenOf,if_neg (by omega)]
 by_cases c3:y=285
 · rw[if_pos c3]
   refine tM (fn:=AP.f74) (h2:=h.dX) (e:=[(2,I 258),(3,I 0),(4,I 0)]) rfl rfl rfl ?_ rfl rfl
   have c3':((y:Int)==285)=true:=tU (by omega)
   simp only[I]at *
   simp only[AP.f74,go_sem,w1,w2,UQ c1',UQ c2',c3']
 rw[if_neg c3]
 have c3':((y:Int)==285)=false:=tT (by omega)
 by_cases c4:y<265
 · rw[if_pos c4]
   refine tM (fn:=AP.f74) (h2:=h.dX) (e:=[(2,I (y-254:Nat)),(3,I 0),(4,I 0)]) rfl rfl rfl ?_ rfl rfl
   have c4':(y:Int)-257<8:=by omega
   have w3:IntKind.wrap .i64 (3+((y:Int)-257))=((y-254:Nat):Int):=by rw[show 3+((y:Int)-257)=((y-254:Nat):Int)by omega];exact u5 (by omega)
   simp only[I]at *
   simp only[AP.f74,go_sem,w1,w2,UQ c1',UQ c2',c3',US c4',w3]
 rw[if_neg c4]
 have c4':¬(y:Int)-257<8:=by omega
 obtain⟨k,hk⟩:∃k:Nat,(y:Int)-257=k:=U9 (by omega)
 have hk':y-257=k:=by omega
 rw[hk]at w2 c4'
 rw[hk']
 have q1:bp .quo (.int .i64 (k:Int)) (.int .i64 4)=some (.int .i64 ((k/4:Nat):Int)):=by
  rw[rH _ _ _ (by omega),show(4:Int)=((4:Nat):Int)from rfl,xn,u5 (by omega)]
 have q2:bp .rem (.int .i64 (k:Int)) (.int .i64 4)=some (.int .i64 ((k%4:Nat):Int)):=by
  rw[rI _ _ _ (by omega),show(4:Int)=((4:Nat):Int)from rfl,yV]
 have w3:IntKind.wrap .i64 (((k/4:Nat):Int)-1)=((k/4-1:Nat):Int):=by rw[show((k/4:Nat):Int)-1=((k/4-1:Nat):Int)by omega];exact u5 (by omega)
 have w4:IntKind.wrap .i64 (4+((k%4:Nat):Int))=((4+k%4:Nat):Int):=by rw[show 4+((k%4:Nat):Int)=((4+k%4:Nat):Int)by omega];exact u5 (by omega)
 have hp:2^(k/4-1)≤2^5:=U4 (by omega) (by omega)
 have hm:(4+k%4)* 2^(k/4-1)≤7* 2^5:=Nat.mul_le_mul (by omega) hp
 have q3:oV .shl .i64 ((4+k%4:Nat):Int) ((k/4-1:Nat):Int)=some (.int .i64 (((4+k%4)* 2^(k/4-1):Nat):Int)):=yq (by omega) (by omega)
 generalize (4+k%4)* 2^(k/4-1)=P at *
 have w5:IntKind.wrap .i64 (3+(P:Int))=((3+P:Nat):Int):=by rw[show 3+(P:Int)=((3+P:Nat):Int)by omega];exact u5 (by omega)
 refine tM (fn:=AP.f74) (h2:=h.dX) (e:=[(2,I (3+P:Nat)),(3,I (k/4-1:Nat)),(4,I 0)]) rfl rfl rfl ?_ rfl rfl
 simp only[I]at *
 simp only[AP.f74,go_sem,w1,w2,UQ c1',UQ c2',c3',UQ c4',q1,q2,w3,w4,q3,w5]
theorem Il (h:H) (y:Nat) (hy:y<1000000):aQ AP.A 75 [I y] h=some (zD (xI y),h):=by
 have c0:¬(y:Int)<0:=by omega
 by_cases c1:30≤y
 · rw[xI,if_pos c1]
   refine tM (fn:=AP.f75) (h2:=h.dX) (e:=[(2,I 0),(3,I 0),(4,I 600)]) rfl rfl rfl ?_ rfl rfl
   have c1':(30:Int)≤y:=by omega
   simp only[I]at *
   simp only[AP.f75,go_sem,UQ c0,US c1']
 have c1':¬(30:Int)≤y:=by omega
 rw[xI,if_neg c1]
 by_cases c2:y<4
 · rw[if_pos c2]
   refine tM (fn:=AP.f75) (h2:=h.dX) (e:=[(2,I (1+y:Nat)),(3,I 0),(4,I 0)]) rfl rfl rfl ?_ rfl rfl
   have c2':(y:Int)<4:=by omega
   have w3:IntKind.wrap .i64 (1+(y:Int))=((1+y:Nat):Int):=by rw[show 1+(y:Int)=((1+y:Nat):Int)by omega];exact u5 (by omega)
   simp only[I]at *
   simp only[AP.f75,go_sem,UQ c0,UQ c1',US c2',w3]
 rw[if_neg c2]
 have c2':¬(y:Int)<4:=by omega
 have q1:bp .quo (.int .i64 (y:Int)) (.int .i64 2)=some (.int .i64 ((y/2:Nat):Int)):=by
  rw[rH _ _ _ (by omega),show(2:Int)=((2:Nat):Int)from rfl,xn,u5 (by omega)]
 have q2:bp .rem (.int .i64 (y:Int)) (.int .i64 2)=some (.int .i64 ((y%2:Nat):Int)):=by
  rw[rI _ _ _ (by omega),show(2:Int)=((2:Nat):Int)from rfl,yV]
 have w3:IntKind.wrap .i64 (((y/2:Nat):Int)-1)=((y/2-1:Nat):Int):=by rw[show((y/2:Nat):Int)-1=((y/2-1:Nat):Int)by omega];exact u5 (by omega)
 have w4:IntKind.wrap .i64 (2+((y%2:Nat):Int))=((2+y%2:Nat):Int):=by rw[show 2+((y%2:Nat):Int)=((2+y%2:Nat):Int)by omega];exact u5 (by omega)
 have hp:2^(y/2-1)≤2^13:=U4 (by omega) (by omega)
 have hm:(2+y%2)* 2^(y/2-1)≤3* 2^13:=Nat.mul_le_mul (by omega) hp
 have q3:oV .shl .i64 ((2+y%2:Nat):Int) ((y/2-1:Nat):Int)=some (.int .i64 (((2+y%2)* 2^(y/2-1):Nat):Int)):=yq (by omega) (by omega)
 generalize (2+y%2)* 2^(y/2-1)=P at *
 have w5:IntKind.wrap .i64 (1+(P:Int))=((1+P:Nat):Int):=by rw[show 1+(P:Int)=((1+P:Nat):Int)by omega];exact u5 (by omega)
 refine tM (fn:=AP.f75) (h2:=h.dX) (e:=[(2,I (1+P:Nat)),(3,I (y/2-1:Nat)),(4,I 0)]) rfl rfl rfl ?_ rfl rfl
 simp only[I]at *
 simp only[AP.f75,go_sem,UQ c0,UQ c1',UQ c2',q1,q2,w3,w4,q3,w5]
abbrev Rs:=Except Int (Nat×List Nat)
def Fin (r:Rs) (S:SS):Prop:=match r with
 | .ok q=>S=⟨q.1,q.2,0⟩
 | .error k=>S.e=k∧k≠0
theorem Ee {c:SC} {S:SS} (b:Nat) (he:S.e=0) (hm:¬c.most≤S.out.length):CD c b S=⟨S.at_,S.out++[b],0⟩:=by
 simp only[CD,if_neg hm,he,if_true]
theorem Bd {c:SC} {S:SS} (b:Nat) (he:S.e=0) (hm:c.most≤S.out.length):(CD c b S).e=701:=by
 simp [CD,hm,vo,he]
def w8 (t:ByteArray) (most:Int):Nat→Nat→List Nat→Rs
 |0,p,out=>.ok (p,out)
 |n+1,p,out=>if p+8≤8* t.size then(if most≤out.length then .error 701 else w8 t most n (p+8) (out++[vi t p 8]))else .error 700
theorem yC {c:SC} {S:SS} {h:H} {ov:AV} (st:St c S h ov) (n:Nat) (hs:n=0∨S.e≠0):
 ∃e',Lp AP.A [0,2] AP.f39L0 [(0,.aC c.s 0),(2,I n)] h=some (.exit 0,e',h):=by
 have gs:=st.gs
 refine⟨[(0,.aC c.s 0),(2,I n),(26,.bool false)],sY ?_⟩
 by_cases hn:n=0
 · have c1:¬(0:Int)<n:=by omega
   simp only[I]at *
   simp only[AP.f39L0,go_sem,UQ c1]
 · have c1:(0:Int)<n:=by omega
   have c2:(S.e==0)=false:=tT (by omega)
   simp only[I]at *
   simp only[AP.f39L0,go_sem,US c1,gs,c2]
theorem CO {c : SC} : ∀ (n : Nat) (S : SS) (h : H) (ov : AV), St c S h ov → S.e = 0 → n ≤ 65535 →
 ∃e' h' ov' S',Lp AP.A [0,2] AP.f39L0 [(0,.aC c.s 0),(2,I n)] h=some (.exit 0,e',h')∧St c S' h' ov'∧Fr c h ov h' ov'∧Fin (w8 c.text c.most n S.at_ S.out) S'
 | 0, S, h, ov, st, he, hn => by
   obtain⟨e',q⟩:=yC st 0 (.inl rfl)
   exact⟨e',h,ov,S,q,st,Fr.refl _ _ _,by simp only[w8,Fin];cases S;simp_all⟩
 | n + 1, S, h, ov, st, he, hn => by
   have gs:=st.gs
   obtain⟨h1,k1,k2,k3⟩:=yP st 8 8 rfl (by omega)
   have gs1:=k2.gs
   have c1:(0:Int)<((n+1:Nat):Int):=by omega
   have w1:IntKind.wrap .i64 (((n+1:Nat):Int)-1)=(n:Int):=by rw[show((n+1:Nat):Int)-1=(n:Int)by omega];exact u5 (by omega)
   by_cases hp:S.at_+8≤8* c.text.size
   · have eg:vm c 8 S=(vi c.text S.at_ 8,{S with at_:=S.at_+8}):=by rw[vm,if_pos hp]
     rw[eg]at k1 k2 gs1
     dsimp only at k1 k2 gs1
     obtain⟨h2,ov2,p1,p2,p3⟩:=I4 k2 (b:=vi c.text S.at_ 8)
     have hb:=vU c.text S.at_ 8
     have w2:IntKind.wrap .u8 ((vi c.text S.at_ 8:Nat):Int)=((vi c.text S.at_ 8:Nat):Int):=wrap_u8 (by simpa using hb)
     have step:aK (aQ AP.A) bz AP.f39L0 (ax [(0,.aC c.s 0),(2,I (n+1:Nat))] [0,2]) h=some (.normal,[(0,.aC c.s 0),(2,I n)],h2):=by
      simp only[I]at *
      simp only[AP.f39L0,go_sem,US c1,gs,he,k1,gs1,w2,p1,w1]
     rw[w8,if_pos hp]
     by_cases hm:c.most≤S.out.length
     · rw[if_pos hm]
       have hl:=Bd (c:=c) (S:={S with at_:=S.at_+8}) (vi c.text S.at_ 8) he hm
       obtain⟨e',q⟩:=yC p2 n (.inr (by rw[hl];decide))
       exact⟨e',h2,ov2,_,sZ step q,p2,k3.trans p3,hl,by decide⟩
     · rw[if_neg hm]
       rw[Ee (S:={S with at_:=S.at_+8}) _ he hm]at p2
       obtain⟨e',h',ov',S',q1,q2,q3,q4⟩:=CO n _ h2 ov2 p2 rfl (by omega)
       exact⟨e',h',ov',S',sZ step q1,q2,(k3.trans p3).trans q3,q4⟩
   · have eg:vm c 8 S=(0,{S with e:=700}):=by rw[vm,if_neg hp,vo,if_pos he]
     rw[eg]at k1 k2 gs1
     dsimp only at k1 k2 gs1
     have step:aK (aQ AP.A) bz AP.f39L0 (ax [(0,.aC c.s 0),(2,I (n+1:Nat))] [0,2]) h=some (.normal,[(0,.aC c.s 0),(2,I n)],h1):=by
      simp only[I]at *
      simp only[AP.f39L0,go_sem,US c1,gs,he,k1,gs1,w1]
     rw[w8,if_neg hp]
     obtain⟨e',q⟩:=yC k2 n (.inr (by simp))
     exact⟨e',h1,ov,_,sZ step q,k2,k3,rfl,by decide⟩
def yr (t:ByteArray) (most:Int) (p0:Nat) (out:List Nat):Rs:=
 let p:=(p0+7)/8* 8
 if p+32≤8* t.size then(if vi t p 16+vi t (p+16) 16=65535 then w8 t most (vi t p 16) (p+32) out else .error 700)else .error 700
theorem FA {n:Nat} (hn:n<65536):bits .xor .i64 (n:Int) 65535=((65535-n:Nat):Int):=by
 have h1:n<2^16:=by simpa using hn
 show IntKind.wrap .i64 (((BitVec.ofInt 64 (n:Int)^^^BitVec.ofInt 64 ((65535:Nat):Int)).toNat:Nat):Int)=_
 rw[BitVec.toNat_xor,xr 64 n (by omega),xr 64 65535 (by omega)]
 have h2:n^^^65535=65535-n:=by
  have:65535-n=2^16-(n+1):=by omega
  rw[this]
  apply Nat.eq_of_testBit_eq
  intro i
  rw[Nat.testBit_two_pow_sub_succ h1,Nat.testBit_xor,show 65535=2^16-1 from rfl,Nat.testBit_two_pow_sub_one]
  by_cases hi:i<16
  · simp [hi]
  · have:n.testBit i=false:=Nat.testBit_lt_two_pow (Nat.lt_of_lt_of_le h1 (U4 (by omega) (by omega)))
    simp [hi,this]
 rw[h2];exact u5 (by omega)
theorem St.align {c:SC} {S:SS} {h:H} {ov:AV} (st:St c S h ov):∃h',aQ AP.A 16 [.aC c.r 0] h=some (I 0,h')∧St c {S with at_:=(S.at_+7)/8* 8} h' ov∧Fr c h ov h' ov:=by
 have hle:=st.wP
 have:=st.PV (p:=(S.at_+7)/8* 8) (by omega)
 exact⟨_,JI h c.r c.text S.at_ st.gr st.fr st.sz st.wP,this.1,this.2⟩
theorem Ju {c : SC} {S : SS} {h : H} {ov : AV} (st : St c S h ov) (he : S.e = 0) :
 ∃h' ov' S',aQ AP.A 39 [.aC c.s 0] h=some (.bO [],h')∧St c S' h' ov'∧Fr c h ov h' ov'∧Fin (yr c.text c.most S.at_ S.out) S':=by
 have gs:=st.gs
 obtain⟨h1,a1,a2,a3⟩:=st.align
 obtain⟨p,hp⟩:∃p,p=(S.at_+7)/8* 8:=⟨_,rfl⟩
 rw[←hp]at a2
 have hS:yr c.text c.most S.at_ S.out=if p+32≤8* c.text.size then(if vi c.text p 16+vi c.text (p+16) 16=65535 then w8 c.text c.most (vi c.text p 16) (p+32) S.out else .error 700)else .error 700:=by
  rw[hp];rfl
 rw[hS];clear hS
 obtain⟨h2,b1,b2,b3⟩:=yP a2 16 16 rfl (by omega)
 obtain⟨h3,d1,d2,d3⟩:=yP b2 16 16 rfl (by omega)
 obtain⟨n,hn⟩:∃n,n=(vm c 16 {S with at_:=p}).1:=⟨_,rfl⟩
 obtain⟨S2,hS2⟩:∃n,n=(vm c 16 {S with at_:=p}).2:=⟨_,rfl⟩
 obtain⟨m,hm⟩:∃n,n=(vm c 16 S2).1:=⟨_,rfl⟩
 obtain⟨S3,hS3⟩:∃n,n=(vm c 16 S2).2:=⟨_,rfl⟩
 rw[←hn]at b1;rw[←hS2]at b2 d1 d2;rw[←hm]at d1;rw[←hS3]at d2
 have hn16:n<65536:=by
  rw[hn];unfold vm;split
  · simpa using vU c.text p 16
  · simp
 have x1:=FA hn16
 by_cases hx:m=65535-n
 · have c1:((m:Int) !=((65535-n:Nat):Int))=false:=tV (by omega)
   have fin:∀e' h',Lp AP.A [0,2] AP.f39L0 [(0,.aC c.s 0),(2,I n)] h3=some (.exit 0,e',h')→aQ AP.A 39 [.aC c.s 0] h=some (.bO [],h'):=by
    intro e' h' q
    refine vZ (fn:=AP.f39) (e:=[]) rfl rfl rfl ?_ rfl
    simp only[I]at *
    simp only[AP.f39,go_sem,rR,gs,a1,b1,d1,x1,c1,q]
   by_cases h32:p+32≤8* c.text.size
   · have e2:vm c 16 {S with at_:=p}=(vi c.text p 16,{S with at_:=p+16}):=by rw[vm,if_pos (by show p+16≤_;omega)]
     rw[e2]at hn hS2;dsimp only at hn hS2;subst hS2
     have e3:vm c 16 {S with at_:=p+16}=(vi c.text (p+16) 16,{S with at_:=p+16+16}):=by rw[vm,if_pos (by show p+16+16≤_;omega)]
     rw[e3]at hm hS3;dsimp only at hm hS3;subst hS3
     rw[if_pos h32,←hn,←hm,if_pos (by omega)]
     obtain⟨e',h',ov',S',q1,q2,q3,q4⟩:=CO n _ h3 ov d2 he (by omega)
     exact⟨h',ov',S',fin e' h' q1,q2,((a3.trans b3).trans d3).trans q3,q4⟩
   · rw [if_neg h32]
     have he3:S3.e=700:=by
      rw[hS3,hS2]
      unfold vm
      by_cases q1:p+16≤8* c.text.size
      · simp only[if_pos q1]
        rw[if_neg (by omega)];simp [vo,he]
      · simp only[if_neg q1,vo,he,if_true]
        split<;>simp
     obtain⟨e',q⟩:=yC d2 n (.inr (by rw[he3];decide))
     exact⟨h3,ov,S3,fin e' h3 q,d2,(a3.trans b3).trans d3,he3,by decide⟩
 · have c1:((m:Int) !=((65535-n:Nat):Int))=true:=tW (by omega)
   obtain⟨h4,f1,f2,f3⟩:=xp d2 700
   have he4:(vo 700 S3).e=700:=by
    have:S3.e=0∨S3.e=700:=by
     rw[hS3,hS2]
     unfold vm
     by_cases q1:p+16≤8* c.text.size
     · simp only[if_pos q1]
       split<;>simp [vo,he]
     · simp only[if_neg q1,vo,he,if_true]
       split<;>simp
    rcases this with q|q<;>simp [vo,q]
   obtain⟨e',q⟩:=yC f2 n (.inr (by rw[he4];decide))
   refine⟨h4,ov,vo 700 S3, ?_,f2,((a3.trans b3).trans d3).trans f3, ?_⟩
   · refine vZ (fn:=AP.f39) (e:=[]) rfl rfl rfl ?_ rfl
     simp only[I]at *
     simp only[AP.f39,go_sem,rR,gs,a1,b1,d1,x1,c1,f1,q]
   · by_cases h32:p+32≤8* c.text.size
     · have e2:vm c 16 {S with at_:=p}=(vi c.text p 16,{S with at_:=p+16}):=by rw[vm,if_pos (by show p+16≤_;omega)]
       rw[e2]at hn hS2;dsimp only at hn hS2;subst hS2
       have e3:vm c 16 {S with at_:=p+16}=(vi c.text (p+16) 16,{S with at_:=p+16+16}):=by rw[vm,if_pos (by show p+16+16≤_;omega)]
       rw[e3]at hm hS3;dsimp only at hm hS3
       rw[if_pos h32,←hn,←hm,if_neg (by omega)]
       exact⟨he4,by decide⟩
     · rw[if_neg h32];exact⟨he4,by decide⟩
def zk (most:Int) (d:Nat):Nat→List Nat→Except Int (List Nat)
 |0,out=>.ok out
 |n+1,out=>if most≤out.length then .error 701 else zk most d n (out++[out.getD (out.length-d) 0])
def Ug (l:List Nat):Prop:=∀b∈l,b<256
theorem yM {c:SC} {S:SS} {h:H} {ov:AV} (st:St c S h ov) (n d:Nat) (hs:n=0∨S.e≠0):
 ∃e',Lp AP.A [0,6,8] AP.f61L0 [(0,.aC c.s 0),(6,I n),(8,I d)] h=some (.exit 0,e',h):=by
 have gs:=st.gs
 refine⟨[(0,.aC c.s 0),(6,I n),(8,I d),(53,.bool false)],sY ?_⟩
 by_cases hn:n=0
 · have c1:¬(0:Int)<n:=by omega
   simp only[I]at *
   simp only[AP.f61L0,go_sem,UQ c1]
 · have c1:(0:Int)<n:=by omega
   have c2:(S.e==0)=false:=tT (by omega)
   simp only[I]at *
   simp only[AP.f61L0,go_sem,US c1,gs,c2]
theorem mX.elem {h:H} {v:AV} {cs:List AV} (o:mX h v cs) {i:Nat} {x:AV} (hx:cs[i]?=some x):∃id,v=.aD id 0 cs.length 1∧fU 1 v (I i)=some (.aC id i)∧h.get id=some cs:=by
 have hi:i<cs.length:=(uB.1 hx).1
 rcases o with ⟨rfl,rfl⟩|⟨id,rfl,h1,_⟩
 · simp at hi
 · exact⟨id,rfl,by simp [fU,ki hi],h1⟩
theorem Ga {l:List Nat} {i:Nat} (h:i<l.length):(yH l)[i]?=some (.int .u8 (l.getD i 0:Nat)):=by
 simp [yH,uO,h,List.getD]
theorem Dc {c:SC} (d:Nat) (hd:0<d):∀(n:Nat) (S:SS) (h:H) (ov:AV),St c S h ov→S.e=0→d≤S.out.length→n≤65535→
 ∃ e' h' ov' S', Lp AP.A [0, 6, 8] AP.f61L0 [(0, .aC c.s 0), (6, I n), (8, I d)] h = some (.exit 0, e', h') ∧ St c S' h' ov' ∧ Fr c h ov h' ov' ∧ match zk c.most d n S.out with
   | .ok o=>S'={S with out:=o}
   | .error k=>S'.e=k∧k≠0
 | 0, S, h, ov, st, he, hl, hn => by
   obtain⟨e',q⟩:=yM st 0 d (.inl rfl)
   exact⟨e',h,ov,S,q,st,Fr.refl _ _ _,by simp only[zk]⟩
 | n + 1, S, h, ov, st, he, hl, hn => by
   have gs:=st.gs
   have hol:=st.ol
   have hml:=st.ml
   have ln:=st.own.len
   rw[xu]at ln
   have c1:(0:Int)<((n+1:Nat):Int):=by omega
   have w1:IntKind.wrap .i64 (((n+1:Nat):Int)-1)=(n:Int):=by rw[show((n+1:Nat):Int)-1=(n:Int)by omega];exact u5 (by omega)
   have w2:IntKind.wrap .i64 ((S.out.length:Int)-d)=((S.out.length-d:Nat):Int):=by rw[show(S.out.length:Int)-d=((S.out.length-d:Nat):Int)by omega];exact u5 (by omega)
   have hb:=Ga (l:=S.out) (i:=S.out.length-d) (by omega)
   obtain⟨id,i1,i2,i3⟩:=st.own.elem hb
   obtain⟨h2,ov2,p1,p2,p3⟩:=I4 st (b:=S.out.getD (S.out.length-d) 0)
   have step:aK (aQ AP.A) bz AP.f61L0 (ax [(0,.aC c.s 0),(6,I (n+1:Nat)),(8,I d)] [0,6,8]) h=some (.normal,[(0,.aC c.s 0),(6,I n),(8,I d)],h2):=by
    clear i1
    simp only[I]at *
    simp only[AP.f61L0,go_sem,US c1,gs,he,ln,w2,i2,i3,hb,p1,w1]
   rw[zk]
   by_cases hm:c.most≤S.out.length
   · rw[if_pos hm]
     have hl:=Bd (c:=c) (S:=S) (S.out.getD (S.out.length-d) 0) he hm
     obtain⟨e',q⟩:=yM p2 n d (.inr (by rw[hl];decide))
     exact⟨e',h2,ov2,_,sZ step q,p2,p3,hl,by decide⟩
   · rw[if_neg hm]
     rw[Ee _ he hm]at p2
     obtain⟨e',h',ov',S',q1,q2,q3,q4⟩:=Dc d hd n _ h2 ov2 p2 rfl (by simp;omega) (by omega)
     refine⟨e',h',ov',S',sZ step q1,q2,p3.trans q3, ?_⟩
     dsimp only at q4 ⊢
     rw[he]
     exact q4
def Ao (t : ByteArray) (most : Int) (dl : List Int) (y : Nat) (p : Nat) (out : List Nat) : Rs :=
 match lenOf y with
 |none=>.error 700
 | some (least, extra) =>
   if p+extra≤8* t.size then
    match xQ t dl 15 1 0 (p+extra)with
    |none=>.error 700
    | some (z, p2) => match xI z.toNat with
      |none=>.error 700
      | some (ld, xd) =>
        if p2+xd≤8* t.size∧ld+vi t p2 xd≤out.length then
         (match zk most (ld+vi t p2 xd) (least+vi t p extra) out with
         | .ok o=>.ok (p2+xd,o)
         | .error k=>.error k)
        else .error 700
   else .error 700
theorem Jx {l:List Int} {n:Nat} {y:Int} (h:y∈syms l n):0≤y∧y<l.length:=by
 unfold syms at h
 split at h
 · cases h
 · rw[List.mem_filterMap]at h
   obtain⟨q,hq,h⟩:=h
   split at h
   · obtain rfl:=uv h
     have:=List.mem_zipIdx hq
     omega
   · cases h
theorem Iu {l:List Int} {n:Nat} {v y:Int} (h:yb l n v=some y):0≤y∧y<l.length:=by
 unfold yb at h
 split at h
 · exact Jx (uJ h)
 · cases h
theorem xK {t : ByteArray} {l : List Int} : ∀ {k n v p : Nat} {y : Int} {p2 : Nat}, xQ t l k n v p = some (y, p2) → 0 ≤ y ∧ y < l.length ∧ p < p2 ∧ p2 ≤ 8 * t.size
 |0,_,_,_,_,_,h=>by cases h
 | k + 1, n, v, p, y, p2, h => by
   rw[xQ]at h
   split at h
   · split at h
     · rename_i hf
       obtain⟨rfl,rfl⟩:=ux (uv h)
       have:=Iu hf
       omega
     · have:=xK h
       omega
   · cases h
theorem Ig {c : SC} {S : SS} {h : H} {ov : AV} (dl : List Int) (hdl : dl.length < 100000) (st : St c S h ov) (he : S.e = 0) (y : Nat) (hy : y < 100000) :
 ∃h' ov' S',aQ AP.A 61 [.aC c.s 0,I y,vJ dl] h=some (.bO [],h')∧St c S' h' ov'∧Fr c h ov h' ov'∧Fin (Ao c.text c.most dl y S.at_ S.out) S':=by
 have lo:=Kh h y (by omega)
 unfold Ao
 cases hlo:lenOf y with
 | none =>
   rw[hlo]at lo
   obtain⟨h1,S1,k1,k2,k3,k4⟩:=DN st he
   have gs1:=k2.gs
   have c1:(S1.e !=0)=true:=tW (by omega)
   refine⟨h1,ov,S1, ?_,k2,k3,k4,by decide⟩
   refine tr (fn:=AP.f61) (e:=[(0,.aC c.s 0),(2,vJ dl),(6,I 0),(20,.bool true)]) (vs:=[]) rfl rfl rfl ?_ rfl
   simp only[I,zD]at *
   simp only[AP.f61,go_sem,lo,k1,gs1,c1]
 | some le =>
   obtain⟨least,extra⟩:=le
   rw[hlo]at lo
   obtain⟨b1,b2,b3⟩:=EZ hlo
   obtain⟨h1,k1,k2,k3⟩:=GS st (n:=extra) (least:=least) (by omega) (by omega)
   dsimp only
   by_cases hp:S.at_+extra≤8* c.text.size
   · have eg : vm c extra S = (vi c.text S.at_ extra, { S with at_ := S.at_ + extra }) := by rw [vm, if_pos hp]
     rw[eg]at k1 k2
     dsimp only at k1 k2
     rw[if_pos hp]
     have gs1:=k2.gs
     have hve:=vU c.text S.at_ extra
     have hve2:2^extra≤2^5:=U4 (by omega) b2
     obtain⟨h2,S2,z,s1,s2,s3,s4⟩:=CQ dl hdl k2 he
     have gs2:=s2.gs
     have c1:(S.e !=0)=false:=tV he
     dsimp only at s4 gs1
     cases hz:xQ c.text dl 15 1 0 (S.at_+extra)with
     | none =>
       rw[hz]at s4
       obtain⟨s4,s5⟩:=s4
       have c2:(S2.e !=0)=true:=tW (by omega)
       refine⟨h2,ov,S2, ?_,s2,k3.trans s3,s4,by decide⟩
       refine tr (fn:=AP.f61) (e:=[(0,.aC c.s 0),(6,I (least+vi c.text S.at_ extra:Nat)),(7,I z),(28,.bool true)]) (vs:=[]) rfl rfl rfl ?_ rfl
       simp only[I,zD]at *
       simp only[AP.f61,go_sem,lo,k1,gs1,c1,s1,gs2,c2]
     | some zp =>
       obtain⟨z2,p2⟩:=zp
       rw[hz]at s4
       obtain⟨s4,s5⟩:=s4
       subst s5 s4
       have zb:=xK hz
       obtain⟨zn,hzn⟩:∃n:Nat,z=n:=U9 zb.1
       subst hzn
       have dob:=Il h2 zn (by omega)
       have c2:(S.e !=0)=false:=tV he
       dsimp only at gs2 ⊢
       rw[Vh]
       cases hdo:xI zn with
       | none =>
         rw[hdo]at dob
         obtain⟨h3,S3,v1,v2,v3,v4⟩:=DN s2 he
         have gs3:=v2.gs
         have ln:=v2.own.len
         rw[xu]at ln
         have hn0:¬((S3.out.length:Int)<0):=by omega
         obtain⟨e',q⟩:=yM v2 (least+vi c.text S.at_ extra) 0 (.inr (by rw[v4];decide))
         refine⟨h3,ov,S3, ?_,v2,(k3.trans s3).trans v3,v4,by decide⟩
         refine vZ (fn:=AP.f61) (e:=[]) (vs:=[]) rfl rfl rfl ?_ rfl
         have q':Lp AP.A [0,6,8] AP.f61L0 [(0,.aC c.s 0),(6,I (least+vi c.text S.at_ extra:Nat)),(8,I 0)] h3=some (.exit 0,e',h3):=q
         clear q
         simp only[I,zD]at *
         simp only[AP.f61,go_sem,rR,lo,k1,gs1,c1,s1,gs2,c2,dob,v1,gs3,ln,UQ hn0,q']
       | some lx =>
         obtain⟨ld,xd⟩:=lx
         rw[hdo]at dob
         obtain⟨d1,d2,d3⟩:=De hdo
         obtain⟨h3,v1,v2,v3⟩:=GS s2 (n:=xd) (least:=ld) (by omega) (by omega)
         obtain⟨x,hx⟩:∃x,x=(vm c xd {S with at_:=p2}).1:=⟨_,rfl⟩
         obtain⟨S3,hS3⟩:∃x,x=(vm c xd {S with at_:=p2}).2:=⟨_,rfl⟩
         rw[←hx]at v1;rw[←hS3]at v2
         have ho3:S3.out=S.out:=by rw[hS3];unfold vm;split<;>simp [vo];split<;>rfl
         have gs3:=v2.gs
         have ln:=v2.own.len
         rw[xu]at ln
         dsimp only
         by_cases hbk:S3.out.length<ld+x
         · have hbk':(S3.out.length:Int)<((ld+x:Nat):Int):=by omega
           obtain⟨h4,f1,f2,f3⟩:=xp v2 700
           have he4:(vo 700 S3).e=700:=by
            have:S3.e=0∨S3.e=700:=by
             rw[hS3];unfold vm;split
             · exact .inl he
             · right;simp [vo,he]
            rcases this with q|q<;>simp [vo,q]
           have hneg:¬(p2+xd≤8* c.text.size∧ld+vi c.text p2 xd≤S.out.length):=by
            intro ⟨q1,q2⟩
            have:vm c xd {S with at_:=p2}=(vi c.text p2 xd,{S with at_:=p2+xd}):=by rw[vm,if_pos q1]
            rw[this]at hx;dsimp only at hx;rw[ho3]at hbk;omega
           rw[if_neg hneg]
           obtain⟨e',q⟩:=yM f2 (least+vi c.text S.at_ extra) (ld+x) (.inr (by rw[he4];decide))
           refine⟨h4,ov,vo 700 S3, ?_,f2,((k3.trans s3).trans v3).trans f3,he4,by decide⟩
           refine vZ (fn:=AP.f61) (e:=[]) (vs:=[]) rfl rfl rfl ?_ rfl
           simp only[I,zD]at *
           simp only[AP.f61,go_sem,rR,lo,k1,gs1,c1,s1,gs2,c2,dob,v1,gs3,ln,US hbk',f1,q]
         · have hbk':¬(S3.out.length:Int)<((ld+x:Nat):Int):=by omega
           have fin:∀e' h',Lp AP.A [0,6,8] AP.f61L0 [(0,.aC c.s 0),(6,I (least+vi c.text S.at_ extra:Nat)),(8,I (ld+x:Nat))] h3=some (.exit 0,e',h')→aQ AP.A 61 [.aC c.s 0,I y,vJ dl] h=some (.bO [],h'):=by
            intro e' h' q
            refine vZ (fn:=AP.f61) (e:=[]) (vs:=[]) rfl rfl rfl ?_ rfl
            simp only[I,zD]at *
            simp only[AP.f61,go_sem,rR,lo,k1,gs1,c1,s1,gs2,c2,dob,v1,gs3,ln,UQ hbk',q]
           by_cases hp2:p2+xd≤8* c.text.size
           · have:vm c xd {S with at_:=p2}=(vi c.text p2 xd,{S with at_:=p2+xd}):=by rw[vm,if_pos hp2]
             rw[this]at hx hS3;dsimp only at hx hS3
             subst hx hS3
             dsimp only at hbk
             rw[if_pos ⟨hp2,by omega⟩]
             obtain⟨e',h',ov',S',q1,q2,q3,q4⟩:=Dc (c:=c) (ld+vi c.text p2 xd) (by omega) (least+vi c.text S.at_ extra) _ h3 ov v2 he (by dsimp only;omega) (by omega)
             refine⟨h',ov',S',fin e' h' q1,q2,((k3.trans s3).trans v3).trans q3, ?_⟩
             dsimp only at q4
             cases hcl:zk c.most (ld+vi c.text p2 xd) (least+vi c.text S.at_ extra) S.out with
             |ok o=>rw[hcl]at q4;rw[he]at q4;exact q4
             |error k=>rw[hcl]at q4;exact q4
           · rw[if_neg (fun q=>hp2 q.1)]
             have he3:S3.e=700:=by
              rw[hS3,vm,if_neg hp2];simp [vo,he]
             obtain⟨e',q⟩:=yM v2 (least+vi c.text S.at_ extra) (ld+x) (.inr (by rw[he3];decide))
             exact⟨h3,ov,S3,fin e' h3 q,v2,(k3.trans s3).trans v3,he3,by decide⟩
   · have eg:vm c extra S=(0,{S with e:=700}):=by rw[vm,if_neg hp,vo,if_pos he]
     rw[eg]at k1 k2
     dsimp only at k1 k2
     rw[if_neg hp]
     have gs1:=k2.gs
     refine⟨h1,ov,_, ?_,k2,k3,rfl,by decide⟩
     refine tr (fn:=AP.f61) (e:=[(0,.aC c.s 0),(2,vJ dl),(6,I (least+0:Nat)),(20,.bool true)]) (vs:=[]) rfl rfl rfl ?_ rfl
     simp only[I,zD]at *
     simp only[AP.f61,go_sem,lo,k1,gs1]
def xH (t : ByteArray) (most : Int) (ll dl : List Int) : Nat → Nat → List Nat → Rs
 |0,_,_=>.error 700
 | k + 1, p, out => match xQ t ll 15 1 0 p with
   |none=>.error 700
   | some (y, p1) =>
     if y<256 then(if most≤out.length then .error 701 else xH t most ll dl k p1 (out++[y.toNat]))
     else if y=256 then .ok (p1,out)
     else match Ao t most dl y.toNat p1 out with
      | .ok (p2,o)=>xH t most ll dl k p2 o
      | .error e=>.error e
theorem EJ {t : ByteArray} {most : Int} {dl : List Int} {y p : Nat} {out o : List Nat} {p2 : Nat} (h : Ao t most dl y p out = .ok (p2, o)) : p ≤ p2 ∧ p2 ≤ 8 * t.size := by
 unfold Ao at h
 split at h
 · cases h
 · split at h
   · split at h
     · cases h
     · rename_i hs
       have:=xK hs
       split at h
       · cases h
       · split at h
         · rename_i hq
           split at h
           · have:=Vi (fun r:Rs=>match r with| .ok q=>q.1|_=>0) h
             dsimp only at this
             omega
           · cases h
         · cases h
   · cases h
theorem B0 {c:SC} {S:SS} {h:H} {ov:AV} (st:St c S h ov) (a b:AV) (hs:S.e≠0):
 ∃e',Lp AP.A [0,1,2] AP.f40L0 [(0,.aC c.s 0),(1,a),(2,b)] h=some (.exit 0,e',h):=by
 have gs:=st.gs
 refine⟨[(0,.aC c.s 0),(1,a),(2,b),(11,.bool false)],sY ?_⟩
 have c2:(S.e==0)=false:=tT hs
 simp only[I]at *
 simp only[AP.f40L0,go_sem,gs,c2]
theorem zV {c : SC} (ll dl : List Int) (hll : ll.length < 100000) (hdl : dl.length < 100000) : ∀ (k : Nat) (S : SS) (h : H) (ov : AV), St c S h ov → S.e = 0 → 8 * c.text.size < S.at_ + k →
 ∃e' h' ov' S',(Lp AP.A [0,1,2] AP.f40L0 [(0,.aC c.s 0),(1,vJ ll),(2,vJ dl)] h=some (.ret,e',h')∨Lp AP.A [0,1,2] AP.f40L0 [(0,.aC c.s 0),(1,vJ ll),(2,vJ dl)] h=some (.exit 0,e',h'))∧St c S' h' ov'∧Fr c h ov h' ov'∧Fin (xH c.text c.most ll dl k S.at_ S.out) S'
 |0,S,h,ov,st,he,hk=>by have:=st.wP;omega
 | k + 1, S, h, ov, st, he, hk => by
   have gs:=st.gs
   obtain⟨h1,S1,z,s1,s2,s3,s4⟩:=CQ ll hll st he
   rw[xH]
   cases hz:xQ c.text ll 15 1 0 S.at_ with
   | none =>
     rw[hz]at s4
     obtain⟨s4,s5⟩:=s4
     subst s5
     refine⟨[(0,.aC c.s 0),(1,vJ ll),(2,vJ dl),(6,I 256),(26,.bool true)],h1,ov,S1,.inl (tC ?_),s2,s3,s4,by decide⟩
     simp only[I]at *
     simp only[AP.f40L0,go_sem,gs,he,s1]
   | some zp =>
     obtain⟨z2,p1⟩:=zp
     rw[hz]at s4
     obtain⟨s4,s5⟩:=s4
     subst s5 s4
     have zb:=xK hz
     obtain⟨y,hy⟩:∃n:Nat,z=n:=U9 zb.1
     subst hy
     dsimp only
     by_cases c1:(y:Int)<256
     · rw[if_pos c1]
       have w1:IntKind.wrap .u8 (y:Int)=y:=wrap_u8 (by omega)
       obtain⟨h2,ov2,p1',p2',p3'⟩:=I4 s2 (b:=y)
       have step:aK (aQ AP.A) bz AP.f40L0 (ax [(0,.aC c.s 0),(1,vJ ll),(2,vJ dl)] [0,1,2]) h=some (.normal,[(0,.aC c.s 0),(1,vJ ll),(2,vJ dl)],h2):=by
        simp only[I]at *
        simp only[AP.f40L0,go_sem,gs,he,s1,US c1,w1,p1']
       by_cases hm:c.most≤S.out.length
       · rw[if_pos hm]
         have hl:=Bd (c:=c) (S:={S with at_:=p1}) y he hm
         obtain⟨e',q⟩:=B0 p2' (vJ ll) (vJ dl) (by rw[hl];decide)
         exact⟨e',h2,ov2,_,.inr (sZ step q),p2',s3.trans p3',hl,by decide⟩
       · rw[if_neg hm]
         rw[Ee (S:={S with at_:=p1}) _ he hm]at p2'
         obtain⟨e',h',ov',S',q1,q2,q3,q4⟩:=zV ll dl hll hdl k _ h2 ov2 p2' rfl (by dsimp only;omega)
         refine⟨e',h',ov',S', ?_,q2,(s3.trans p3').trans q3,q4⟩
         rcases q1 with q1|q1
         · exact .inl (sZ step q1)
         · exact .inr (sZ step q1)
     · rw [if_neg c1]
       by_cases c2:(y:Int)=256
       · rw[if_pos c2]
         refine⟨[(0,.aC c.s 0),(1,vJ ll),(2,vJ dl),(6,I y),(26,.bool true)],h1,ov,_,.inl (tC ?_),s2,s3, ?_⟩
         · have c2':=tU c2
           simp only[I]at *
           simp only[AP.f40L0,go_sem,gs,he,s1,UQ c1,c2']
         · simp only[Fin];rw[he]
       · rw[if_neg c2]
         have c2':=tT c2
         obtain⟨h2,ov2,S2,r1,r2,r3,r4⟩:=Ig dl hdl s2 he y (by omega)
         have step:aK (aQ AP.A) bz AP.f40L0 (ax [(0,.aC c.s 0),(1,vJ ll),(2,vJ dl)] [0,1,2]) h=some (.normal,[(0,.aC c.s 0),(1,vJ ll),(2,vJ dl)],h2):=by
          simp only[I]at *
          simp only[AP.f40L0,go_sem,gs,he,s1,UQ c1,c2',r1]
         dsimp only at r4
         rw[Vh]
         cases hc:Ao c.text c.most dl y p1 S.out with
         | error q =>
           rw[hc]at r4
           obtain⟨e',q'⟩:=B0 r2 (vJ ll) (vJ dl) (by rw[r4.1];exact r4.2)
           exact⟨e',h2,ov2,S2,.inr (sZ step q'),r2,s3.trans r3,r4⟩
         | ok q =>
           obtain⟨p2,o⟩:=q
           rw[hc]at r4
           simp only[Fin]at r4
           subst r4
           have hge:=EJ hc
           obtain⟨e',h',ov',S',q1,q2,q3,q4⟩:=zV ll dl hll hdl k _ h2 ov2 r2 rfl (by dsimp only;omega)
           refine⟨e',h',ov',S', ?_,q2,(s3.trans r3).trans q3,q4⟩
           rcases q1 with q1|q1
           · exact .inl (sZ step q1)
           · exact .inr (sZ step q1)
theorem Gc {c:SC} {S:SS} {h:H} {ov:AV} (ll dl:List Int) (hll:ll.length<100000) (hdl:dl.length<100000) (st:St c S h ov) (he:S.e=0):
 ∃h' ov' S',aQ AP.A 40 [.aC c.s 0,vJ ll,vJ dl] h=some (.bO [],h')∧St c S' h' ov'∧Fr c h ov h' ov'∧Fin (xH c.text c.most ll dl (8* c.text.size+1) S.at_ S.out) S':=by
 obtain⟨e',h',ov',S',q1,q2,q3,q4⟩:=zV ll dl hll hdl (8* c.text.size+1) S h ov st he (by omega)
 refine⟨h',ov',S', ?_,q2,q3,q4⟩
 rcases q1 with q1|q1
 · refine tr (fn:=AP.f40) (e:=e') (vs:=[]) rfl rfl rfl ?_ rfl
   simp only[AP.f40,go_sem,rR,q1]
 · refine vZ (fn:=AP.f40) (e:=[]) (vs:=[]) rfl rfl rfl ?_ rfl
   simp only[AP.f40,go_sem,rR,q1]
theorem vv (h:H):∀id c,h.get id=some c→h.dX.get id=some c:=fun _ _ q=>q
def Cf (P:AV→Bool):List AV→Nat→Int
 |[],_=> -1
 |v::r,i=>if P v then(i:Int)else Cf P r (i+1)
theorem EU (P:AV→Bool):∀(l:List AV) (i:Nat),(0≤Cf P l i)↔l.any P=true
 |[],i=>by simp [Cf]
 | v :: r, i => by
   rw[Cf]
   by_cases h:P v
   · rw[if_pos h];simp [h]
   · rw[if_neg h,EU P r];simp [h]
theorem Cg {x fv : AV} {cs : List AV} (P : AV → Bool) (hP : ∀ v ∈ cs, ∀ g : H, kr (aQ AP.A) [v] g fv = some (.bool (P v), g)) (hl : cs.length < 1000000000) (h : H) (rd : Rd h x cs) :
 ∀ (m i : Nat), m + i = cs.length → (∃ e', Lp AP.A [0, 1, 7, 8] AP.f84L0 [(0, x), (1, fv), (7, I cs.length), (8, I i)] h = some (.exit 0, e', h) ∧ Cf P (cs.drop i) i = -1) ∨
   ∃e',Lp AP.A [0,1,7,8] AP.f84L0 [(0,x),(1,fv),(7,I cs.length),(8,I i)] h=some (.ret,e',h)∧look e' 4=I (Cf P (cs.drop i) i)
 | 0, i, hm => by
   left
   refine⟨[(0,x),(1,fv),(7,I cs.length),(8,I i),(9,.bool false)],sY ?_,by rw[List.drop_eq_nil_of_le (by omega)];rfl⟩
   have c1:¬(i:Int)<(cs.length:Int):=by omega
   simp only[I]at *
   simp only[AP.f84L0,go_sem,UQ c1]
 | m + 1, i, hm => by
   have hi:i<cs.length:=by omega
   obtain⟨v,hv⟩:∃v,cs[i]?=some v:=⟨_,Vb hi⟩
   have hd:cs.drop i=v::cs.drop (i+1):=by
    rw[List.drop_eq_getElem_cons hi];rw[Vb hi]at hv;rw[uv hv]
   obtain⟨p,p1,p2⟩:=rd.elem hv
   have p3:=p2 h (fun _ _ q=>q)
   have c1:(i:Int)<(cs.length:Int):=by omega
   have hPv:=hP v (uJ hv) h
   have w1:IntKind.wrap .i64 ((i:Int)+1)=((i+1:Nat):Int):=u5 (n:=i+1) (by omega)
   rw[hd,Cf]
   cases hb:P v with
   | true =>
     right
     rw[hb]at hPv
     rw[if_pos rfl]
     refine⟨[(4,I i)],tC ?_,rfl⟩
     simp only[I]at *
     simp only[AP.f84L0,go_sem,US c1,p1,p3,hPv]
   | false =>
     rw[hb]at hPv
     have step:aK (aQ AP.A) bz AP.f84L0 (ax [(0,x),(1,fv),(7,I cs.length),(8,I i)] [0,1,7,8]) h=some (.normal,[(0,x),(1,fv),(7,I cs.length),(8,I (i+1:Nat))],h):=by
      simp only[I]at *
      simp only[AP.f84L0,go_sem,US c1,p1,p3,hPv,w1]
     rw[if_neg (by decide)]
     rcases Cg P hP hl h rd m (i+1) (by omega)with ⟨e',q1,q2⟩|⟨e',q1,q2⟩
     · exact .inl ⟨e',sZ step q1,q2⟩
     · exact .inr ⟨e',sZ step q1,q2⟩
theorem Kc {x fv:AV} {cs:List AV} (P:AV→Bool) (hP:∀v∈cs,∀g:H,kr (aQ AP.A) [v] g fv=some (.bool (P v),g)) (hl:cs.length<1000000000) (h:H) (rd:Rd h x cs):
 aQ AP.A 84 [x,fv] h=some (I (Cf P cs 0),h):=by
 have rd':=rd.mono (vv h)
 have ln:=rd.len
 rcases Cg P hP hl h.dX rd' cs.length 0 (by omega)with ⟨e',q1,q2⟩|⟨e',q1,q2⟩
 · rw[U1]at q2
   rw[q2]
   refine tM (fn:=AP.f84) (h2:=h.dX) (e:=[(4,I (-1))]) rfl rfl rfl ?_ rfl rfl
   have q1':Lp AP.A [0,1,7,8] AP.f84L0 [(0,x),(1,fv),(7,I cs.length),(8,I 0)] h.dX=some (.exit 0,e',h.dX):=q1
   clear q1
   simp only[I]at *
   simp only[AP.f84,go_sem,rR,ln,q1']
 · rw[U1]at q2
   refine tM (fn:=AP.f84) (h2:=h.dX) (e:=e') (vs:=[I (Cf P cs 0)]) rfl rfl rfl ?_ (by simp only[AP.f84,cL,mQ,q2];rfl) rfl
   have q1':Lp AP.A [0,1,7,8] AP.f84L0 [(0,x),(1,fv),(7,I cs.length),(8,I 0)] h.dX=some (.ret,e',h.dX):=q1
   clear q1
   simp only[I]at *
   simp only[AP.f84,go_sem,rR,ln,q1']
theorem zW {x fv:AV} {cs:List AV} (P:AV→Bool) (hP:∀v∈cs,∀g:H,kr (aQ AP.A) [v] g fv=some (.bool (P v),g)) (hl:cs.length<1000000000) (h:H) (rd:Rd h x cs):
 aQ AP.A 83 [x,fv] h=some (.bool (cs.any P),h):=by
 have k1:=Kc P hP hl h.dX (rd.mono (vv h))
 have ha:=EU P cs 0
 refine tM (fn:=AP.f83) (h2:=h.dX) (e:=[(4,.bool (cs.any P))]) rfl rfl rfl ?_ rfl rfl
 cases hb:cs.any P with
 | true =>
   have c1:0≤Cf P cs 0:=ha.2 hb
   simp only[I]at *
   simp only[AP.f83,go_sem,k1,US c1]
 | false =>
   have c1:¬0≤Cf P cs 0:=by rw[ha,hb];decide
   simp only[I]at *
   simp only[AP.f83,go_sem,k1,UQ c1]
def zQ (v:AV):Bool:=match v with| .int _ n=>decide (n<0)||decide (15<n)|_=>true
theorem Qp (n:Int) (h:H):aQ AP.A 82 [I n] h=some (.bool (zQ (I n)),h):=by
 by_cases c1:n<0
 · refine tM (fn:=AP.f82) (h2:=h.dX) (e:=[(2,.bool true)]) rfl rfl rfl ?_ rfl ?_
   · simp only[I]at *
     simp only[AP.f82,go_sem,US c1]
   · simp [zQ,I,c1];rfl
 · refine tM (fn:=AP.f82) (h2:=h.dX) (e:=[(2,.bool (decide (15<n)))]) rfl rfl rfl ?_ rfl ?_
   · simp only[I]at *
     simp only[AP.f82,go_sem,UQ c1]
   · simp [zQ,I,c1];rfl
def BA (l:List Int):Bool:=decide (1≤l.length)&&decide (l.length≤288)&& !((ints l).any zQ)
theorem Ss (h:H) (x:AV) (l:List Int) (hl:l.length<100000) (rd:Rd h x (ints l)):aQ AP.A 81 [x] h=some (.bool (BA l),h):=by
 have hP:∀v∈ints l,∀g:H,kr (aQ AP.A) [v] g (.fn 82 [] [])=some (.bool (zQ v),g):=by
  intro v hv g
  obtain⟨n,_,rfl⟩:=U8.1 hv
  rw[nv];exact Qp n g
 have k1:=zW zQ hP (by simp;omega) h.dX (rd.mono (vv h))
 have ln:=rd.len
 rw[pt]at ln
 refine tM (fn:=AP.f81) (h2:=h.dX) (e:=[(2,.bool (BA l))]) rfl rfl rfl ?_ rfl rfl
 unfold BA
 by_cases c1:1≤l.length
 · have c1':(1:Int)≤(l.length:Int):=by omega
   by_cases c2:l.length≤288
   · have c2':(l.length:Int)≤288:=by omega
     simp only[I]at *
     simp only[AP.f81,go_sem,ln,US c1',US c2',US c1,US c2,k1,U7]
   · have c2':¬(l.length:Int)≤288:=by omega
     simp only[I]at *
     simp only[AP.f81,go_sem,ln,US c1',UQ c2',US c1,UQ c2,U7,UZ]
 · have c1':¬(1:Int)≤(l.length:Int):=by omega
   simp only[I]at *
   simp only[AP.f81,go_sem,ln,UQ c1',UQ c1,UZ]
def vR (l:List Int):Int:=if BA l=false then 300 else if vP l 15<0 then 301 else if 0<vP l 15 then 302 else 0
theorem Dz {l:List Int} (h:BA l=true):∀y∈l,0≤y∧y<16:=by
 intro y hy
 simp only[BA,uG,Bool.not_eq_true',List.any_eq_false]at h
 have:=h.2 (I y) (U8.2 ⟨y,hy,rfl⟩)
 simp [zQ,I]at this
 omega
theorem DW (h : H) (x : AV) (l : List Int) (hl : l.length < 100000) (rd : Rd h x (ints l)) : aQ AP.A 65 [x] h = some (I (vR l), h) := by
 have rd':=rd.mono (vv h)
 have k1:=Ss h.dX x l hl rd'
 unfold vR
 by_cases hm:BA l=true
 · have k2:=z5 h.dX x l hl (Dz hm) rd'
   have hb:vJ l=.aJ (mY 49 (xy l)) 0:=rfl
   have g:(mY 49 (xy l))[48]?=some (I (vP l 15)):=by rw[fS (by omega)];rfl
   rw[hb]at k2
   clear hb
   generalize mY 49 (xy l)=T at k2 g
   rw[hm]at k1 ⊢
   rw[if_neg (by decide)]
   by_cases c1:vP l 15<0
   · rw[if_pos c1]
     refine tM (fn:=AP.f65) (h2:=h.dX) (e:=[(2,I 301)]) rfl rfl rfl ?_ rfl rfl
     simp only[I]at *
     simp only[AP.f65,go_sem,k1,k2,g,US c1]
   · rw[if_neg c1]
     by_cases c2:0<vP l 15
     · rw[if_pos c2]
       refine tM (fn:=AP.f65) (h2:=h.dX) (e:=[(2,I 302)]) rfl rfl rfl ?_ rfl rfl
       simp only[I]at *
       simp only[AP.f65,go_sem,k1,k2,g,UQ c1,US c2]
     · rw[if_neg c2]
       refine tM (fn:=AP.f65) (h2:=h.dX) (e:=[(2,I 0)]) rfl rfl rfl ?_ rfl rfl
       simp only[I]at *
       simp only[AP.f65,go_sem,k1,k2,g,UQ c1,UQ c2]
 · have hm':BA l=false:=by simpa using hm
   rw[hm']at k1 ⊢
   rw[if_pos rfl]
   refine tM (fn:=AP.f65) (h2:=h.dX) (e:=[(2,I 300)]) rfl rfl rfl ?_ rfl rfl
   simp only[I]at *
   simp only[AP.f65,go_sem,k1]
def F2:List Int→Int→Int
 |[],s=>s
 |x::r,s=>F2 r (s+x)
theorem Bw {x:AV} {l:List Int} (hl:l.length<100000) (hr:∀y∈l,0≤y∧y<16) (h:H) (rd:Rd h x (ints l)):
 ∀(q p:List Int) (s:Int),l=p++q→0≤s→s≤16* p.length→∃e',Lp AP.A [3,6,7,8] AP.f66L0 [(3,I s),(6,x),(7,I l.length),(8,I p.length)] h=some (.exit 0,e',h)∧look e' 3=I (F2 q s)
 | [], p, s, hpq, hs0, hs1 => by
   refine⟨[(3,I s),(6,x),(7,I l.length),(8,I p.length),(9,.bool false)],sY ?_,rfl⟩
   have c1:¬(p.length:Int)<(l.length:Int):=by rw[hpq];simp
   simp only[I]at *
   simp only[AP.f66L0,go_sem,UQ c1]
 | y :: q, p, s, hpq, hs0, hs1 => by
   have hlen:l.length=p.length+(q.length+1):=by rw[hpq];simp
   have c1:(p.length:Int)<(l.length:Int):=by omega
   have hy:=hr y (by rw[hpq];simp)
   have hv:(ints l)[p.length]?=some (I y):=sG (by rw[hpq];simp)
   obtain⟨a,p1,p2⟩:=rd.elem hv
   have p3:=p2 h (fun _ _ q=>q)
   have w1:IntKind.wrap .i64 (s+y)=s+y:=tx (by omega) (by omega)
   have w2:IntKind.wrap .i64 ((p.length:Int)+1)=(((p++[y]).length:Nat):Int):=by
    rw[uZ];exact u5 (n:=p.length+1) (by omega)
   have step:aK (aQ AP.A) bz AP.f66L0 (ax [(3,I s),(6,x),(7,I l.length),(8,I p.length)] [3,6,7,8]) h=some (.normal,[(3,I (s+y)),(6,x),(7,I l.length),(8,I (p++[y]).length)],h):=by
    simp only[I]at *
    simp only[AP.f66L0,sm,qt,qm,qp,qo,oF,sP,sN,sq,su,sC,sA,sh,sk,sg,sf,rW,rY,rD,rF,pH,mZ,my,mE,kU,rU,rS,oJ,oK,sR,qU,sL,qF,ou,oj,Nat.reduceEqDiff,ne_eq,not_false_eq_true,lM,lG,US c1,p1,p3,w1,w2]
   obtain⟨e',q1,q2⟩:=Bw hl hr h rd q (p++[y]) (s+y) (by rw[hpq];simp) (by omega) (by simp;omega)
   exact⟨e',sZ step q1,q2⟩
def wJ (l:List Int):Bool:=decide (F2 l 0≤1)
theorem Jk (h:H) (x:AV) (l:List Int) (hl:l.length<100000) (hr:∀y∈l,0≤y∧y<16) (rd:Rd h x (ints l)):aQ AP.A 66 [x] h=some (.bool (wJ l),h):=by
 have rd':=rd.mono (vv h)
 have ln:=rd.len
 rw[pt]at ln
 obtain⟨e',q1,q2⟩:=Bw hl hr h.dX rd' l [] 0 rfl (by omega) (by simp)
 have q1':Lp AP.A [3,6,7,8] AP.f66L0 [(3,I 0),(6,x),(7,I l.length),(8,I 0)] h.dX=some (.exit 0,e',h.dX):=q1
 clear q1
 refine tM (fn:=AP.f66) (h2:=h.dX) (e:=[(2,.bool (wJ l))]) rfl rfl rfl ?_ rfl rfl
 simp only[I,wJ]at *
 simp only[AP.f66,go_sem,rR,ln,q1',q2]
theorem CU {n:Nat} (h:n<18446744073709551616):IntKind.wrap .u64 (n:Int)=n:=by
 have e:IntKind.wrap .u64 (n:Int)=(n:Int)%18446744073709551616:=by simp [IntKind.wrap,IntKind.bits,IntKind.signed]
 rw[e];omega
theorem BP {a:Nat} (ha:a<4294967296):bits .and .u64 (a:Int) 4294967295=(a:Int):=by
 show IntKind.wrap .u64 (((BitVec.ofInt 64 (a:Int)&&&BitVec.ofInt 64 ((4294967295:Nat):Int)).toNat:Nat):Int)=_
 rw[BitVec.toNat_and,xr 64 a (by omega),xr 64 4294967295 (by omega)]
 rw[show 4294967295=2^32-1 from rfl,Nat.and_two_pow_sub_one_eq_mod,Nat.mod_eq_of_lt (by simpa using ha)]
 exact CU (by omega)
theorem GM {a:Nat} (ha:a<4294967296):oV .shr .u64 (a:Int) 32=some (.int .u64 0):=by
 have:(a:Int).fdiv 4294967296=0:=by rw[Int.fdiv_eq_ediv_of_nonneg _ (by omega)];omega
 simp [oV,IntKind.bits,this]
theorem Km (h:H) (a b:Nat) (ha:a<4294967296) (hb:b<4294967296) (hab:a* b<4294967296):aQ AP.A 78 [.int .u64 a,.int .u64 b] h=some (.bO [.int .u64 0,.int .u64 (a* b:Nat)],h):=by
 have a1:=BP ha
 have a2:=BP hb
 have s1:=GM ha
 have s2:=GM hb
 have s3:=GM hab
 have w1:IntKind.wrap .u64 ((a:Int)* b)=((a* b:Nat):Int):=by rw[show(a:Int)* b=((a* b:Nat):Int)by simp];exact CU (by omega)
 have w0:IntKind.wrap .u64 0=0:=by decide
 have z1:(0:Int)* b=0:=by omega
 have z2:(a:Int)* 0=0:=by omega
 have s0:oV .shr .u64 0 32=some (.int .u64 0):=GM (a:=0) (by omega)
 have a0:bits .and .u64 0 4294967295=0:=BP (a:=0) (by omega)
 refine tM (fn:=AP.f78) (h2:=h.dX) (e:=[(4,.int .u64 0),(5,.int .u64 (a* b:Nat))]) rfl rfl rfl ?_ rfl rfl
 simp only[AP.f78,go_sem,a1,a2,s1,s2,s3,w1,w0,z1,z2,s0,a0,Int.zero_mul,Int.add_zero]
theorem Sv (h:H) (a b:Nat) (ha:a<4294967296) (hb:b<4294967296) (hab:a* b<4294967296):aQ AP.A 63 [.int .u64 a,.int .u64 b] h=some (.bO [.int .u64 0,.int .u64 (a* b:Nat)],h):=by
 have k:=Km h.dX a b ha hb hab
 refine tM (fn:=AP.f63) (h2:=h.dX) (e:=[(4,.int .u64 0),(5,.int .u64 (a* b:Nat))]) rfl rfl rfl ?_ rfl rfl
 simp only[AP.f63,go_sem,k]
theorem yG:∀(B V A C:List AV),V.length=B.length→setFrom (A++(B++C)) A.length V=A++(V++C)
 |[],[],A,C,_=>rfl
 | b :: B, v :: V, A, C, h => by
   rw[oU]
   have h1:(A++(b::B++C)).set A.length v=(A++[v])++(B++C):=by
    rw[List.set_append_right _ _ (uF _)];simp
   rw[h1]
   have h2:=yG B V (A++[v]) C (by simpa using h)
   rw[uZ]at h2
   rw[show A.length+1=A.length+[v].length by rfl,h2];simp
 |[],v::V,A,C,h=>by simp at h
 |b::B,[],A,C,h=>by simp at h
theorem Hd (n:Nat) {v:AV} (hv:v.sc=true):AV.aB (List.replicate n v)=true:=by
 induction n with
 |zero=>rfl
 |succ n ih=>rw[List.replicate_succ,pN,hv,ih];rfl
theorem Ei (v:AV):∀n,dP n [v]=List.replicate n v
 |0=>rfl
 |n+1=>by rw[dP,Ei v n];rfl
theorem Fl {k y:Nat} (h:k≤y):kb (I k) y=some k:=by
 simp [kb,nk,I];omega
theorem FG {h:H} {id N k:Nat} {cs:List AV} (hg:h.get id=some cs) (hN:cs.length=N) (hk:k≤N):rL h 1 (.aD id 0 N 1) (some (I k)) none none=some (.aD id k (N-k) 1):=by
 simp [rL,hg,hN,aA,Fl hk]
theorem DQ {h:H} {id N M k:Nat} {cs:List AV} (hg:h.get id=some cs) (hN:cs.length=N) (hM:M≤N) (hk:k≤N):rL h 1 (.aD id 0 M 1) none (some (I k)) none=some (.aD id 0 k 1):=by
 have:kb (I k) N=some k:=Fl hk
 simp [rL,hg,hN,aA,this,hM]
def zh (v:AV) (k N:Nat):List AV:=List.replicate k v++List.replicate (N-k) (I 0)
theorem Ja {v:AV} {k N:Nat} (h:k≤N):(zh v k N).length=N:=by simp [zh];omega
theorem Fg {v:AV} {k N m:Nat} (h:k+m≤N):setFrom (zh v k N) k (List.replicate m v)=zh v (k+m) N:=by
 have e:List.replicate (N-k) (I 0)=List.replicate m (I 0)++List.replicate (N-(k+m)) (I 0):=by
  rw[List.replicate_append_replicate];congr 1;omega
 have:=yG (List.replicate m (I 0)) (List.replicate m v) (List.replicate k v) (List.replicate (N-(k+m)) (I 0)) (by simp)
 rw[Vc]at this
 rw[zh,e,this,zh,←List.append_assoc,List.replicate_append_replicate]
theorem Bv (v : AV) (hv : v.sc = true) (N id : Nat) (hN : N < 1000000000) : ∀ (f k : Nat) (h : H), N - k ≤ f → 0 < k → k ≤ N → h.get id = some (zh v k N) → h.floor ≤ id →
 ∃e' h',Lp AP.A [7,8] AP.f43L0 [(7,.aD id 0 N 1),(8,I k)] h=some (.exit 0,e',h')∧look e' 7=.aD id 0 N 1∧h'.get id=some (zh v N N)∧h'.next=h.next
 | f, k, h, hf, hk, hkN, hg, hfl => by
   by_cases hlt:k<N
   · have c1:(k:Int)<(N:Int):=by omega
     have hlen:=Ja (v:=v) hkN
     have s1:=FG hg hlen hkN
     have s2:=DQ hg hlen (uF N) hkN
     obtain⟨m,hm⟩:∃m,m=Nat.min k (N-k):=⟨_,rfl⟩
     have hm1:0<m∧m≤k∧k+m≤N:=by
      rw[hm];have:Nat.min k (N-k)=min k (N-k):=rfl
      rw[this];omega
     have hsrc:aR h 1 (.aD id 0 k 1)=some (k,List.replicate k v):=by
      simp only[aR,if_true,hg,uC]
      rw[if_pos (by rw[hlen];omega)]
      simp [zh]
     have cp:ij h 1 (.aD id k (N-k) 1) (.aD id 0 k 1)=some (I m,h.set id (zh v (k+m) N)):=by
      unfold ij
      rw[hsrc,uC]
      simp only[Hd k hv,hfl,and_self,true_and,if_true,hg,uC,hlen]
      rw[if_pos (by omega),←hm,Vk,List.take_replicate,Nat.min_eq_left hm1.2.1,Fg hm1.2.2];rfl
     have w1:IntKind.wrap .i64 ((k:Int)+m)=((k+m:Nat):Int):=by rw[show(k:Int)+m=((k+m:Nat):Int)by omega];exact u5 (by omega)
     have al:jc false (.aD id 0 N 1)=some (I N):=rfl
     have step:aK (aQ AP.A) bz AP.f43L0 (ax [(7,.aD id 0 N 1),(8,I k)] [7,8]) h=some (.normal,[(7,.aD id 0 N 1),(8,I (k+m:Nat))],h.set id (zh v (k+m) N)):=by
      simp only[I]at *
      simp only[AP.f43L0,go_sem,al,US c1,UU,U6,s1,s2,cp,w1]
     match f,hf with
     |0,hf=>omega
     | f + 1, hf =>
       obtain⟨e',h',q1,q2,q3,q4⟩:=Bv v hv N id hN f (k+m) (h.set id (zh v (k+m) N)) (by omega) (by omega) (by omega) (by rw[H.dE,if_pos rfl,hg];rfl) (by simpa using hfl)
       exact⟨e',h',sZ step q1,q2,q3,by rw[q4];simp⟩
   · have hkN':k=N:=by omega
     subst hkN'
     have c1:¬(k:Int)<(k:Int):=by omega
     have al:jc false (.aD id 0 k 1)=some (I k):=rfl
     refine⟨[(7,.aD id 0 k 1),(8,I k),(37,.bool false)],h,sY ?_,rfl,hg,rfl⟩
     simp only[I]at *
     simp only[AP.f43L0,go_sem,al,UQ c1]
theorem yS (h : H) (x : AV) (y : Int) (N : Nat) (hN : N < 1000000000) (rd : Rd h x [I y]) : aQ AP.A 43 [x, I N] h = some (.aU false (ints (List.replicate N y)) 0 N 1, h) := by
 have rd':=rd.mono (vv h)
 have ln:=rd.len
 have mc:=Sv h.dX 1 N (by omega) (by omega) (by omega)
 rw[Nat.one_mul]at mc
 have mc':aQ AP.A 63 [.int .u64 1,.int .u64 N] h.dX=some (.bO [.int .u64 0,.int .u64 N],h.dX):=mc
 clear mc
 have c0:¬(N:Int)<0:=by omega
 have w1:IntKind.wrap .u64 1=1:=by decide
 have w2:IntKind.wrap .u64 (N:Int)=N:=CU (by omega)
 have w3:IntKind.wrap .i64 (N:Int)=N:=u5 (by omega)
 have c1:¬(0:Int)<0:=by omega
 have c2:¬(9223372036854775807:Int)<(N:Int):=by omega
 obtain⟨id,hid⟩:∃i,i=h.next:=⟨_,rfl⟩
 obtain⟨g1,hg1⟩:∃g,g=h.dX.alloc (List.replicate N (I 0)):=⟨_,rfl⟩
 have e1:g1.get id=some (List.replicate N (I 0)):=by rw[hg1,H.aV,if_pos (by rw[hid];rfl)]
 have bt:aX [(29,I N),(28,.int .u64 N),(0,x),(6,.int .u64 N)] (.iU 1 8 [I 0] (.t 29) (.t 29))=some (List.replicate N (I 0),fun i=>.aD i 0 N 1):=by
  have c3:(8:Int)* N≤281474976710656:=by omega
  have c4:(N:Int)≤9223372036854775807:=by omega
  simp [aX,I,Ei,c3,c4]
 have hcp : ∃ (k : Nat) (h2 : H), ij g1 1 (.aD id 0 N 1) x = some (I k, h2) ∧ ((k = 0 ∧ N = 0) ∨ (k = 1 ∧ 0 < N)) ∧ h2.get id = some (zh (I y) k N) ∧ h2.floor = h.next ∧ h2.next = g1.next := by
  have rd2:aR g1 1 x=some (1,[I y]):=(rd.mono (fun i c q=>by rw[hg1,H.aV,if_neg (by have:=h.lt _ _ q;show i≠h.next;omega)];exact q)).1
  refine⟨Nat.min 1 N,g1.set id (zh (I y) (Nat.min 1 N) N), ?_, ?_,by rw[H.dE,if_pos rfl,e1];rfl,by rw[hg1];simp,by simp⟩
  · unfold ij
    rw[rd2,uC]
    have hf:g1.floor≤id:=by rw[hg1,hid];simp
    have ha:AV.aB [I y]=true:=rfl
    simp only[ha,hf,and_self,true_and,if_true,e1,uC,Vc]
    rw[if_pos (by omega),Vk]
    have hz:List.replicate N (I 0)=zh (I y) 0 N:=by simp [zh]
    rw[hz]
    have ht:[I y].take (Nat.min 1 N)=List.replicate (Nat.min 1 N) (I y):=by
     cases N with
     |zero=>rfl
     | succ n => have : Nat.min 1 (n + 1) = 1 := by show min 1 (n + 1) = 1; omega
                 rw[this];rfl
    rw[ht,Fg (by show 0+min 1 N≤N;omega),uK];rfl
  · cases N with
    |zero=>left;exact⟨rfl,rfl⟩
    |succ n=>right;exact⟨by show min 1 (n+1)=1;omega,by omega⟩
 obtain⟨k,h2,cp1,cp2,cp3,cp4,cp5⟩:=hcp
 have lp:∃e' h3,Lp AP.A [7,8] AP.f43L0 [(7,.aD id 0 N 1),(8,I k)] h2=some (.exit 0,e',h3)∧look e' 7=.aD id 0 N 1∧h3.get id=some (zh (I y) N N):=by
  rcases cp2 with ⟨rfl,rfl⟩|⟨rfl,hN0⟩
  · refine⟨[(7,.aD id 0 0 1),(8,I 0),(37,.bool false)],h2,sY ?_,rfl,cp3⟩
    have al:jc false (.aD id 0 0 1)=some (I 0):=rfl
    simp only[I]at *
    simp only[AP.f43L0,go_sem,al,Int.natCast_zero]
  · obtain⟨e',h',q1,q2,q3,_⟩:=Bv (I y) rfl N id hN N 1 h2 (by omega) (by omega) (by omega) cp3 (by rw[cp4,hid];exact uF _)
    exact⟨e',h',q1,q2,q3⟩
 obtain⟨e',h3,q1,q2,q3⟩:=lp
 refine tM (fn:=AP.f43) (h2:=h3) (e:=[(4,.aD id 0 N 1)]) (vs:=[.aD id 0 N 1]) rfl rfl rfl ?_ rfl ?_
 · have al:jc false x=some (I 1):=ln
   have hn:h.dX.next=id:=by rw[hid];rfl
   simp only[I]at *
   simp only[AP.f43,go_sem,al,UQ c0,w1,w2,w3,mc',UQ c1,UQ c2,bt,←hg1,hn,cp1,rR,q1,q2]
 · have hr:zh (I y) N N=ints (List.replicate N y):=by simp [zh,ints]
   show snap h3.get h.next 16 true (.aD id 0 N 1)=_
   unfold snap
   rw[if_neg (by omega),q3,uC,hr,if_pos (by simp)]
   have ht:((ints (List.replicate N y)).drop 0).take (N* 1)=ints (List.replicate N y):=by
    rw[U1,Vk,uU (by simp)]
   rw[ht,xh];rfl
theorem Pu (h:H) (N:Nat) (hN0:0<N) (hN:N<1000000000):aQ AP.A 76 [.aO,I N] h=some (.aD h.next 0 0 1,h.alloc (List.replicate N (I 0))):=by
 have c0:¬(N:Int)<0:=by omega
 have c1:(0:Int)<N:=by omega
 have w0:IntKind.wrap .i64 (0-0)=0:=by decide
 have w1:IntKind.wrap .i64 ((N:Int)-0)=N:=by rw[Int.sub_zero];exact u5 (by omega)
 have a1:pJ .aO=some (I 0):=rfl
 have a2:jc false .aO=some (I 0):=rfl
 have a3:rL h 1 .aO none (some (I 0)) none=some .aO:=rfl
 have a4:ig h 1 8 [I 0] .aO (I N)=some (.aD h.next 0 N 1,h.alloc (List.replicate N (I 0))):=by
  have c3:(N:Int)≤281474976710656:=by omega
  have c4:(N:Int)* 8≤281474976710656:=by omega
  have c5:roomy 8 N=true:=by simp [roomy];omega
  simp [ig,I,c3,c4,c5,Ei,hN0]
 have a5:rL (h.alloc (List.replicate N (I 0))) 1 (.aD h.next 0 N 1) none (some (I 0)) none=some (.aD h.next 0 0 1):=
  DQ (by rw[H.aV,if_pos rfl]) (by simp) (uF _) (Nat.zero_le _)
 refine tr (fn:=AP.f76) (e:=[(4,.aD h.next 0 0 1)]) rfl rfl rfl ?_ rfl
 simp only[I]at *
 simp only[AP.f76,go_sem,UQ c0,US c1,w0,w1,a1,a2,UU,U6,a3,a4,a5]
def cat (ps:List (AV×List Int)):List Int:=ps.flatMap (·.2)
theorem EI (p:AV×List Int) (ps:List (AV×List Int)):cat (p::ps)=p.2++cat ps:=by simp [cat]
theorem Al {h:H} {x:AV} {all:List (AV×List Int)} (rd:Rd h x (all.map (·.1))) (hp:∀p∈all,Rd h p.1 (ints p.2)) (hT:(cat all).length<1000000000) (hA:all.length<1000000000):
 ∀(ps qs:List (AV×List Int)),all=qs++ps→
 ∃e',Lp AP.A [0,3,9,10,11] AP.f62L1 [(0,x),(3,I (cat qs).length),(9,x),(10,I all.length),(11,I qs.length)] h=some (.exit 0,e',h)∧look e' 0=x∧look e' 3=I (cat all).length
 | [], qs, hq => by
   rw[UX]at hq;subst hq
   refine⟨[(0,x),(3,I (cat all).length),(9,x),(10,I all.length),(11,I all.length),(12,.bool false)],sY ?_,rfl,rfl⟩
   have c1:¬(all.length:Int)<(all.length:Int):=by omega
   simp only[I]at *
   simp only[AP.f62L1,go_sem,UQ c1]
 | p :: ps, qs, hq => by
   have hlen:all.length=qs.length+(ps.length+1):=by rw[hq];simp
   have hct:(cat all).length=(cat qs).length+(p.2.length+(cat ps).length):=by rw[hq];simp [cat]
   have c1:(qs.length:Int)<(all.length:Int):=by omega
   have hv:(all.map (·.1))[qs.length]?=some p.1:=by rw[hq];simp
   obtain⟨a,p1,p2⟩:=rd.elem hv
   have p3:=p2 h (fun _ _ q=>q)
   have ln:=(hp p (by rw[hq];simp)).len
   rw[pt]at ln
   have w1:IntKind.wrap .i64 (((cat qs).length:Int)+p.2.length)=((cat (qs++[p])).length:Int):=by
    rw[show((cat qs).length:Int)+p.2.length=((cat (qs++[p])).length:Int)by simp [cat]];exact u5 (by simp [cat]at *;omega)
   have c2:¬((cat (qs++[p])).length:Int)<0:=by omega
   have w2:IntKind.wrap .i64 ((qs.length:Int)+1)=((qs++[p]).length:Int):=by
    rw[uZ];exact u5 (n:=qs.length+1) (by omega)
   obtain⟨e',q1,q2,q3⟩:=Al rd hp hT hA ps (qs++[p]) (by rw[hq];simp)
   have step:aK (aQ AP.A) bz AP.f62L1 (ax [(0,x),(3,I (cat qs).length),(9,x),(10,I all.length),(11,I qs.length)] [0,3,9,10,11]) h=some (.normal,[(0,x),(3,I (cat (qs++[p])).length),(9,x),(10,I all.length),(11,I (qs++[p]).length)],h):=by
    generalize hB:(qs++[p]).length=B at *
    simp only[I]at *
    simp only[AP.f62L1,go_sem,US c1,p1,p3,ln,w1,UQ c2,w2]
   exact⟨e',sZ step q1,q2,q3⟩
theorem Am {h0 : H} {x : AV} {all : List (AV × List Int)} (rd : Rd h0 x (all.map (·.1))) (hp : ∀ p ∈ all, Rd h0 p.1 (ints p.2)) (hT : (cat all).length < 1000000000) (hA : all.length < 1000000000) (id : Nat) (hid : h0.next ≤ id) :
 ∀(ps qs:List (AV×List Int)) (h:H),all=qs++ps→h.floor≤id→h.get id=some (ints (cat qs)++List.replicate (cat ps).length (I 0))→(∀i c,h0.get i=some c→h.get i=some c)→
 ∃e' h',Lp AP.A [6,25,26,27] AP.f62L0 [(6,.aD id 0 (cat qs).length 1),(25,x),(26,I all.length),(27,I qs.length)] h=some (.exit 2,e',h')∧look e' 6=.aD id 0 (cat all).length 1∧h'.get id=some (ints (cat all))
 | [], qs, h, hq, hf, hg, hm => by
   rw[UX]at hq;subst hq
   refine⟨[(6,.aD id 0 (cat all).length 1),(25,x),(26,I all.length),(27,I all.length),(28,.bool false)],h,sY ?_,rfl,by rw[hg];simp [cat]⟩
   have c1:¬(all.length:Int)<(all.length:Int):=by omega
   simp only[I]at *
   simp only[AP.f62L0,go_sem,UQ c1]
 | p :: ps, qs, h, hq, hf, hg, hm => by
   have hlen:all.length=qs.length+(ps.length+1):=by rw[hq];simp
   have hct:(cat all).length=(cat qs).length+(p.2.length+(cat ps).length):=by rw[hq];simp [cat]
   have hcq:(cat (qs++[p])).length=(cat qs).length+p.2.length:=by simp [cat]
   have c1:(qs.length:Int)<(all.length:Int):=by omega
   have hv:(all.map (·.1))[qs.length]?=some p.1:=by rw[hq];simp
   obtain⟨a,p1,p2⟩:=rd.elem hv
   have p3:=p2 h hm
   have src:=((hp p (by rw[hq];simp)).mono hm).1
   rw[pt]at src
   have w2:IntKind.wrap .i64 ((qs.length:Int)+1)=((qs++[p]).length:Int):=by
    rw[uZ];exact u5 (n:=qs.length+1) (by omega)
   have hz:List.replicate (cat (p::ps)).length (I 0)=List.replicate p.2.length (I 0)++List.replicate (cat ps).length (I 0):=by
    rw[List.replicate_append_replicate,EI,uZ]
   have hap:∃h1,kD h 1 8 (.aD id 0 (cat qs).length 1) p.1=some (.aD id 0 (cat (qs++[p])).length 1,h1)∧h1.floor=h.floor∧h1.get id=some (ints (cat (qs++[p]))++List.replicate (cat ps).length (I 0))∧∀i c,h0.get i=some c→h1.get i=some c:=by
    by_cases h0':p.2.length=0
    · have hp2:p.2=[]:=List.length_eq_zero_iff.1 h0'
      refine⟨h, ?_,rfl, ?_,hm⟩
      · unfold kD
        rw[src,uC]
        unfold dS
        rw[if_pos (by simp [h0']),hcq,h0',Vg]
      · rw[hg,EI,hp2];simp [cat,hp2]
    · refine⟨h.set id (ints (cat (qs++[p]))++List.replicate (cat ps).length (I 0)), ?_,by simp,by rw[H.dE,if_pos rfl,hg];rfl,fun i c q=> ?_⟩
      · unfold kD
        rw[src,uC]
        have hs:setFrom (ints (cat qs)++List.replicate (cat (p::ps)).length (I 0)) (cat qs).length (ints p.2)=ints (cat (qs++[p]))++List.replicate (cat ps).length (I 0):=by
         have:=yG (List.replicate p.2.length (I 0)) (ints p.2) (ints (cat qs)) (List.replicate (cat ps).length (I 0)) (by simp)
         rw[pt]at this
         rw[hz,this];simp [cat,pq]
        unfold dS
        dsimp only
        rw[if_neg h0',if_neg (by simp [jK])]
        rw[if_pos ⟨rfl,hf⟩,hg,uC,if_pos (by rw[hz];simp)]
        rw[Vk,uK,hs,hcq]
      · rw[H.dE,if_neg (by have:=h0.lt _ _ q;omega)];exact hm i c q
   obtain⟨h1,ap1,ap2,ap3,ap4⟩:=hap
   obtain⟨e',h',q1,q2,q3⟩:=Am rd hp hT hA id hid ps (qs++[p]) h1 (by rw[hq];simp) (by rw[ap2];exact hf) ap3 ap4
   have step:aK (aQ AP.A) bz AP.f62L0 (ax [(6,.aD id 0 (cat qs).length 1),(25,x),(26,I all.length),(27,I qs.length)] [6,25,26,27]) h=some (.normal,[(6,.aD id 0 (cat (qs++[p])).length 1),(25,x),(26,I all.length),(27,I (qs++[p]).length)],h1):=by
    generalize hB:(qs++[p]).length=B at *
    simp only[I]at *
    simp only[AP.f62L0,go_sem,US c1,p1,p3,ap1,w2]
   exact⟨e',h',sZ step q1,q2,q3⟩
def wk (l:List Int):AV:=.aU false (ints l) 0 l.length 1
theorem yg (h:H) (l:List Int):Rd h (wk l) (ints l):=by
 refine⟨?_,by intro s e;cases e⟩
 simp [aR,wk,uU]
theorem Ie (h:H) (x:AV) (ps:List (AV×List Int)) (rd:Rd h x (ps.map (·.1))) (hp:∀p∈ps,Rd h p.1 (ints p.2)) (hT:(cat ps).length<1000000000) (hA:ps.length<1000000000) (h0:0<(cat ps).length):aQ AP.A 62 [x] h=some (wk (cat ps),h):=by
 have rd':=rd.mono (vv h)
 have hp':∀p∈ps,Rd h.dX p.1 (ints p.2):=fun p q=>(hp p q).mono (vv h)
 have ln:=rd.len
 rw[UW]at ln
 obtain⟨e1,a1,a2,a3⟩:=Al rd' hp' hT hA ps [] rfl
 have a1':Lp AP.A [0,3,9,10,11] AP.f62L1 [(0,x),(3,I 0),(9,x),(10,I ps.length),(11,I 0)] h.dX=some (.exit 0,e1,h.dX):=a1
 clear a1
 have gc:=Pu h.dX (cat ps).length h0 hT
 obtain⟨h1,hh1⟩:∃g,g=h.dX.alloc (List.replicate (cat ps).length (I 0)):=⟨_,rfl⟩
 rw[←hh1]at gc
 obtain⟨e2,h2,b1,b2,b3⟩:=Am rd' hp' hT hA h.next (uF _) ps [] h1 rfl (by rw[hh1];simp) (by rw[hh1,H.aV,if_pos (show h.next=h.dX.next from rfl)];rfl)
  (fun i c q=>by rw[hh1,H.aV,if_neg (by have:=h.dX.lt _ _ q;omega)];exact q)
 have b1':Lp AP.A [6,25,26,27] AP.f62L0 [(6,.aD h.next 0 0 1),(25,x),(26,I ps.length),(27,I 0)] h1=some (.exit 2,e2,h2):=b1
 clear b1
 have hn:h.dX.next=h.next:=rfl
 refine tM (fn:=AP.f62) (h2:=h2) (e:=[(2,.aD h.next 0 (cat ps).length 1)]) (vs:=[.aD h.next 0 (cat ps).length 1]) rfl rfl rfl ?_ rfl ?_
 · simp only[I]at *
   simp only[AP.f62,go_sem,ln,rR,a1',a2,a3,gc,hn,b1',b2]
 · show snap h2.get h.next 16 true (.aD h.next 0 (cat ps).length 1)=_
   unfold snap
   rw[if_neg (by omega),b3,uC,if_pos (by simp)]
   have ht:((ints (cat ps)).drop 0).take ((cat ps).length* 1)=ints (cat ps):=by
    rw[U1,Vk,uU (by simp)]
   rw[ht,xh];rfl
def wB:List Int:=List.replicate 144 8++(List.replicate 112 9++(List.replicate 24 7++List.replicate 8 8))
theorem Qs (e:Env) (n:Int):aX e (.cR 1 1 [.int .i64 0] [(0,.c (.int .i64 n))])=some ([I n],fun i=>.aD i 0 1 1):=rfl
theorem zP (h:H) (n:Int):Rd (h.alloc [I n]) (.aD h.next 0 1 1) [I n]:=by
 refine⟨?_,by intro s e;cases e⟩
 simp [aR,H.aV]
theorem J2 (h:H):aQ AP.A 42 [] h=some (wk wB,h):=by
 have r1:=yS (h.dX.alloc [I 8]) (.aD h.dX.next 0 1 1) 8 144 (by omega) (zP _ _)
 have r2:=yS ((h.dX.alloc [I 8]).alloc [I 9]) (.aD (h.dX.alloc [I 8]).next 0 1 1) 9 112 (by omega) (zP _ _)
 have r3:=yS (((h.dX.alloc [I 8]).alloc [I 9]).alloc [I 7]) (.aD ((h.dX.alloc [I 8]).alloc [I 9]).next 0 1 1) 7 24 (by omega) (zP _ _)
 have r4:=yS ((((h.dX.alloc [I 8]).alloc [I 9]).alloc [I 7]).alloc [I 8]) (.aD (((h.dX.alloc [I 8]).alloc [I 9]).alloc [I 7]).next 0 1 1) 8 8 (by omega) (zP _ _)
 obtain⟨g4,hg4⟩:∃g,g=(((h.dX.alloc [I 8]).alloc [I 9]).alloc [I 7]).alloc [I 8]:=⟨_,rfl⟩
 obtain⟨v1,hv1⟩:∃v,v=AV.aU false (ints (List.replicate 144 8)) 0 144 1:=⟨_,rfl⟩
 obtain⟨v2,hv2⟩:∃v,v=AV.aU false (ints (List.replicate 112 9)) 0 112 1:=⟨_,rfl⟩
 obtain⟨v3,hv3⟩:∃v,v=AV.aU false (ints (List.replicate 24 7)) 0 24 1:=⟨_,rfl⟩
 obtain⟨v4,hv4⟩:∃v,v=AV.aU false (ints (List.replicate 8 8)) 0 8 1:=⟨_,rfl⟩
 have hc:cat [(v1,List.replicate 144 8),(v2,List.replicate 112 9),(v3,List.replicate 24 7),(v4,List.replicate 8 8)]=wB:=by
  simp only[cat,wB,List.flatMap_cons,List.flatMap_nil,UX]
 have hfl:wB.length=288:=by simp only[wB,uZ,Vc]
 have cc:=Ie (g4.alloc [v1,v2,v3,v4]) (.aD g4.next 0 4 1) [(v1,List.replicate 144 8),(v2,List.replicate 112 9),(v3,List.replicate 24 7),(v4,List.replicate 8 8)]
  ⟨by simp [aR,H.aV],by intro s e;cases e⟩
  (by
    intro p hp
    simp only[uW,List.not_mem_nil,or_false]at hp
    rcases hp with rfl|rfl|rfl|rfl
    · rw[hv1];exact yg _ _
    · rw[hv2];exact yg _ _
    · rw[hv3];exact yg _ _
    · rw[hv4];exact yg _ _) (by rw[hc,hfl];omega) (by simp) (by rw[hc,hfl];omega)
 rw[hc]at cc
 have bt:∀e:Env,look e 2=v1→look e 4=v2→look e 6=v3→look e 8=v4→aX e (.cR 1 4 [.aO] [(0,.t 2),(1,.t 4),(2,.t 6),(3,.t 8)])=some ([v1,v2,v3,v4],fun i=>.aD i 0 4 1):=by
  intro e q1 q2 q3 q4
  simp only[aX,U5,Vf,rU,q1,q2,q3,q4]
  rw[hv1,hv2,hv3,hv4];rfl
 refine tM (fn:=AP.f42) (h2:=g4.alloc [v1,v2,v3,v4]) (e:=[(0,wk wB)]) rfl rfl rfl ?_ rfl ?_
 · rw[←hv1]at r1;rw[←hv2]at r2;rw[←hv3]at r3;rw[←hv4]at r4
   rw[←hg4]at r4
   have r1':aQ AP.A 43 [.aD h.dX.next 0 1 1,I 144] (h.dX.alloc [I 8])=some (v1,h.dX.alloc [I 8]):=r1
   have r2':aQ AP.A 43 [.aD (h.dX.alloc [I 8]).next 0 1 1,I 112] ((h.dX.alloc [I 8]).alloc [I 9])=some (v2,(h.dX.alloc [I 8]).alloc [I 9]):=r2
   have r3':aQ AP.A 43 [.aD ((h.dX.alloc [I 8]).alloc [I 9]).next 0 1 1,I 24] (((h.dX.alloc [I 8]).alloc [I 9]).alloc [I 7])=some (v3,((h.dX.alloc [I 8]).alloc [I 9]).alloc [I 7]):=r3
   have r4':aQ AP.A 43 [.aD (((h.dX.alloc [I 8]).alloc [I 9]).alloc [I 7]).next 0 1 1,I 8] g4=some (v4,g4):=r4
   clear r1 r2 r3 r4 hv1 hv2 hv3 hv4 hc
   simp only[I]at *
   simp only[AP.f42,go_sem,Qs,I,r1',r2',r3',←hg4,r4']
   rw[bt _ rfl rfl rfl rfl]
   simp only[mb,sm,go_sem,cc]
 · simp only[dA];unfold snap wk;rfl
def vH:List Int:=[16,17,18,0,8,7,9,6,10,5,11,4,12,3,13,2,14,1,15]
theorem Kr (h:H):aQ AP.A 79 [] h=some (wk vH,h):=by
 have b:aX [] (.cR 1 19 [.int .i64 0] [(0,(.c (.int .i64 16))),(1,(.c (.int .i64 17))),(2,(.c (.int .i64 18))),(3,(.c (.int .i64 0))),(4,(.c (.int .i64 8))),(5,(.c (.int .i64 7))),(6,(.c (.int .i64 9))),(7,(.c (.int .i64 6))),(8,(.c (.int .i64 10))),(9,(.c (.int .i64 5))),(10,(.c (.int .i64 11))),(11,(.c (.int .i64 4))),(12,(.c (.int .i64 12))),(13,(.c (.int .i64 3))),(14,(.c (.int .i64 13))),(15,(.c (.int .i64 2))),(16,(.c (.int .i64 14))),(17,(.c (.int .i64 1))),(18,(.c (.int .i64 15)))])=some (ints vH,fun i=>.aD i 0 19 1):=rfl
 refine tM (fn:=AP.f79) (h2:=h.dX.alloc (ints vH)) (e:=[(0,.aD h.next 0 19 1)]) (vs:=[.aD h.next 0 19 1]) rfl rfl rfl ?_ rfl ?_
 · have hn:h.dX.next=h.next:=rfl
   simp only[AP.f79,go_sem,b,hn]
 · show snap (h.dX.alloc (ints vH)).get h.next 16 true (.aD h.next 0 19 1)=_
   unfold snap
   rw[if_neg (by omega),H.aV,if_pos (show h.next=h.dX.next from rfl),uC,if_pos (by decide)]
   rw[show((ints vH).drop 0).take (19* 1)=ints vH from rfl,xh];rfl
def IB (c:ae) (d:Option Nat) (r:List aj) (e:Env) (p:Option (AV×H)):Option (Env×H×List H):=p.bind fun q=>aM c r (aL d q.1 e) q.2
theorem A3 (c:ae) (d:Option Nat) (r:List aj) (e:Env) (v:AV) (h:H):IB c d r e (some (v,h))=aM c r (aL d v e) h:=uz rfl rfl
def HG (aN:Bool) (h:H) (p:Option (Env×H×List H)):Option (Env×H×List H):=p.bind fun q=>some (q.1,q.2.1,if aN then h::q.2.2 else q.2.2)
theorem Bb (h:H) (e:Env) (h':H) (gs:List H):HG true h (some (e,h',gs))=some (e,h',h::gs):=uz rfl rfl
theorem Ba (h:H) (e:Env) (h':H) (gs:List H):HG false h (some (e,h',gs))=some (e,h',gs):=uz rfl rfl
theorem yR (c:ae) (e:Env) (h:H):aM c [] e h=some (e,h,[h]):=uz rfl rfl
theorem DB (c:ae) (o:aj) (r:List aj) (e:Env) (h:H):aM c (o::r) e h=HG o.op.aN h (IB c o.dst r e (ai c o e h)):=by
 rw[aM]
 unfold HG IB
 cases hv:ai c o e h with
 |none=>rfl
 | some q =>
   obtain⟨v,h'⟩:=q
   simp only[uC]
theorem A8 (c:ae) (d:Option Nat) (op:bX) (r:List aj) (e:Env) (h:H):aM c (⟨d,op,none⟩::r) e h=HG op.aN h (IB c d r e (ah c e h op)):=DB _ _ _ _ _
theorem IW (c:ae) (d:Option Nat) (op:bX) (g:Nat) (w:Bool) (r:List aj) (e:Env) (h:H):aM c (⟨d,op,some (g,w)⟩::r) e h=HG op.aN h (IB c d r e (kS w c e h op (look e g))):=DB _ _ _ _ _
theorem DO {c:ae} {l:bJ} {e e':Env} {h h':H} {gs:List H} (ord:List Nat) (ops:List aj) (fl:List (Nat×List Nat)) (wN:List Nat) (h1:aM c ops e h=some (e',h',gs)) (h2:aY c ops e' gs fl=true):aK c l (.iS ord ops fl wN) e h=some (.normal,ax e' wN,h'):=by
 rw[aK,h1,uC]
 dsimp only
 rw[if_pos h2]
theorem yU {c:ae} {ops:List aj} {e:Env} {gs:List H} {i:Nat} {ks:List Nat} {r:List (Nat×List Nat)} (h1:∀k∈ks,bH c ops e gs i k=true) (h2:aY c ops e gs r=true):aY c ops e gs ((i,ks)::r)=true:=by
 simp only[aY,uG,Vd]
 exact⟨h1,h2⟩
theorem yT {c:ae} {ops:List aj} {e:Env} {gs:List H} {i k:Nat} {o:aj} {g h':H} {d:Nat} {u:AV} (ho:ops[i]?=some o) (hg:gs[k]?=some g) (hb:o.op.aH=false) (hd:o.dst=some d) (hv:ai c o e g=some (u,h')) (hu:AV.beq u (look e d)=true):bH c ops e gs i k=true:=by
 unfold bH
 rw[ho,hg]
 dsimp only
 rw[hb]
 simp only[uD,u0,hd,UU,hv]
 exact hu
theorem BB (k:IntKind) (n:Int):AV.beq (.int k n) (.int k n)=true:=by simp [AV.beq]
theorem Ag (i o l z:Nat):AV.beq (.aD i o l z) (.aD i o l z)=true:=by simp [AV.beq]
theorem Ez (i o:Nat):AV.beq (.aC i o) (.aC i o)=true:=by simp [AV.beq]
theorem BC (s:ByteArray):AV.beq (.str s) (.str s)=true:=by
 have:(s==s)=true:=by
  obtain⟨d⟩:=s
  show(d==d)=true
  exact beq_self_eq_true d
 simp [AV.beq,this]
theorem mX.apps {h:H} {v:AV} {cs:List AV} (o:mX h v cs) (hfn:h.floor≤h.next) {z:Nat} (bs:List AV) (hc:AV.aB bs=true) (hb:0<bs.length) (hr:roomy z (cs.length+bs.length)=true):
 ∃v' h',dS h 1 z v bs.length bs=some (v',h')∧mX h' v' (cs++bs)∧h'.floor=h.floor∧h.next≤h'.next∧(∀i,v.id?≠some i→i≠h.next→h'.get i=h.get i)∧v'.id?=some h.next:=by
 have hne:bs≠[]:=by intro e;rw[e]at hb;simp at hb
 rcases o with ⟨rfl,rfl⟩|⟨id,rfl,hg,hf,hne'⟩
 · refine⟨.aD h.next 0 bs.length 1,h.alloc bs, ?_,.inr ⟨h.next,by simp,by simp [H.aV], ?_,by simpa using hne⟩,by simp,by simp,fun i _ hi=>by rw[H.aV,if_neg hi],rfl⟩
   · unfold dS
     rw[if_neg (by omega),if_neg (by simp [hc])]
     simp only[UT,uK]at hr
     simp only[hr,if_true]
   · simp;omega
 · refine⟨.aD h.next 0 (cs.length+bs.length) 1,(h.del id).alloc (cs++bs), ?_,.inr ⟨h.next,by simp,by simp [H.aV], ?_,by simp [hne]⟩,by simp,by simp,fun i h1 h2=> ?_,rfl⟩
   · unfold dS
     rw[if_neg (by omega),if_neg (by simp [hc])]
     simp only[hf,and_self,if_true,hg,uC]
     rw[if_neg (by omega),if_pos ⟨by omega,hr⟩]
     simp
   · have:=h.lt id cs hg;simp;omega
   · rw[H.aV,H.jx,if_neg h2,H.ed,if_neg]
     intro e;subst e;exact h1 rfl
theorem St.wN {c:SC} {S:SS} {h h':H} {ov:AV} (st:St c S h ov) (hf:h'.floor=h.floor) (hn:h.next≤h'.next) (hg:∀i,i=c.s∨i=c.r∨ov.id?=some i→h'.get i=h.get i):St c S h' ov:=by
 refine⟨by rw[hg _ (.inl rfl)];exact st.gs,by rw[hg _ (.inr (.inl rfl))];exact st.gr,st.own.mono hf fun i hi=>hg i (.inr (.inr hi)),st.sr,by rw[hf];exact st.fs,by rw[hf];exact st.fr,st.os,st.or,by rw[hf];exact uX st.nx hn,st.sz,st.wP,st.ol,st.ml⟩
theorem St.lt {c:SC} {S:SS} {h:H} {ov:AV} (st:St c S h ov) {i:Nat} (hi:i=c.s∨i=c.r∨ov.id?=some i):i<h.next:=by
 rcases hi with rfl|rfl|hi
 · exact h.lt _ _ st.gs
 · exact h.lt _ _ st.gr
 · exact st.own.lt hi
theorem St.alloc {c:SC} {S:SS} {h:H} {ov:AV} (st:St c S h ov) (cs:List AV):St c S (h.alloc cs) ov∧Fr c h ov (h.alloc cs) ov:=by
 refine⟨st.wN (by simp) (by simp) fun i hi=> ?_,⟨by simp,by simp,fun id h1 _ _ _=> ?_,fun _ q=>.inl q⟩⟩
 · have:=st.lt hi;rw[H.aV,if_neg (by omega)]
 · rw[H.aV,if_neg (by omega)]
def wy (c:SC) (y:Int) (acc:List Int) (S:SS):(Int×Nat)×SS:=
 if y=16 then(if acc=[]then((0,0),vo 700 S)else((acc.getD (acc.length-1) 0,3+(vm c 2 S).1),(vm c 2 S).2))
 else if y=17 then((0,3+(vm c 3 S).1),(vm c 3 S).2)
 else if y=18 then((0,11+(vm c 7 S).1),(vm c 7 S).2)
 else((y,1),S)
theorem zJ (c:SC) (S:SS) (n:Nat) (hn:n≤16):(vm c n S).1<65536:=by
 unfold vm;split
 · have:=vU c.text S.at_ n
   have:=U4 (show 0<2 by omega) hn
   simp at *;omega
 · simp
theorem zK {l:List Int} {i:Nat} (h:i<l.length):(ints l)[i]?=some (I (l.getD i 0)):=sG (by simp [List.getD,h])
theorem JH {c : SC} {S : SS} {h : H} {ov : AV} (st : St c S h ov) (y : Int) {av : AV} {acc : List Int} (oa : mX h av (ints acc)) (ha : acc.length < 100000) (hne : ∀ i, av.id? = some i → i ≠ c.s ∧ i ≠ c.r ∧ ov.id? ≠ some i) :
 ∃h',aQ AP.A 80 [.aC c.s 0,I y,av] h=some (.bO [I (wy c y acc S).1.1,I (wy c y acc S).1.2],h')∧St c (wy c y acc S).2 h' ov∧Fr c h ov h' ov:=by
 have ln:=oa.len
 rw[pt]at ln
 by_cases h16:y=16
 · have d16:=tU h16
   by_cases hnil:acc=[]
   · obtain⟨h',k1,k2,k3⟩:=xp st 700
     have e:wy c y acc S=((0,0),vo 700 S):=by rw[wy,if_pos h16,if_pos hnil]
     rw[e]
     refine⟨h', ?_,k2,k3⟩
     have hz:((acc.length:Int)==0)=true:=by rw[hnil];rfl
     refine tr (fn:=AP.f80) (e:=[(6,I 0),(7,I 0)]) rfl rfl rfl ?_ rfl
     simp only[I]at *
     simp only[AP.f80,go_sem,d16,ln,hz,k1]
   · obtain⟨h',k1,k2,k3⟩:=yP st 2 2 rfl (by omega)
     have e:wy c y acc S=((acc.getD (acc.length-1) 0,3+(vm c 2 S).1),(vm c 2 S).2):=by rw[wy,if_pos h16,if_neg hnil]
     rw[e]
     have hpos:0<acc.length:=List.length_pos_iff.2 hnil
     have hz:((acc.length:Int)==0)=false:=tT (by omega)
     have hg:=zJ c S 2 (by omega)
     have w1:IntKind.wrap .i64 (3+((vm c 2 S).1:Int))=((3+(vm c 2 S).1:Nat):Int):=by
      rw[show(3:Int)+((vm c 2 S).1:Int)=((3+(vm c 2 S).1:Nat):Int)by omega];exact u5 (by omega)
     have w2:IntKind.wrap .i64 ((acc.length:Int)-1)=((acc.length-1:Nat):Int):=by
      rw[show(acc.length:Int)-1=((acc.length-1:Nat):Int)by omega];exact u5 (by omega)
     have hel:=zK (l:=acc) (i:=acc.length-1) (by omega)
     obtain⟨id,i1,i2,i3⟩:=oa.elem hel
     have hid:=hne id (by rw[i1];rfl)
     have i4:h'.get id=some (ints acc):=by rw[k3.Bt id (h.lt _ _ i3) hid.1 hid.2.1 hid.2.2];exact i3
     refine⟨h', ?_,k2,k3⟩
     refine tr (fn:=AP.f80) (e:=[(6,I (acc.getD (acc.length-1) 0)),(7,I (3+(vm c 2 S).1:Nat))]) rfl rfl rfl ?_ rfl
     generalize (vm c 2 S).1=G at *
     clear i1
     simp only[I]at *
     simp only[AP.f80,go_sem,d16,ln,hz]
     rw[DO (e':=[(7,.int .i64 ((3+G:Nat):Int)),(6,.int .i64 (acc.getD (acc.length-1) 0)),(24,.int .i64 ((3+G:Nat):Int)),(23,.int .i64 G),(22,.aC c.s 0),(21,.int .i64 (acc.getD (acc.length-1) 0)),(20,.aC id (acc.length-1)),(19,.int .i64 (acc.length-1:Nat)),(18,.int .i64 acc.length),(17,av),(16,av),(0,.aC c.s 0),(2,av)]) (h':=h') (gs:=[h,h'])]
     · simp only[go_sem]
     · simp only[yR,A8,A3,Bb,Ba,bX.aN,go_sem,ln,w2,i2,i3,hel,k1,w1]
     · refine yU (fun k hk=> ?_) rfl
       obtain rfl:k=1:=by simpa using hk
       refine yT (o:=⟨some 21,.load false 1 (.t 20),none⟩) (g:=h') (h':=h') (d:=21) (u:=.int .i64 (acc.getD (acc.length-1) 0)) rfl rfl rfl rfl ?_ ?_
       · simp only[ai,go_sem,i4,hel]
       · simp only[go_sem,BB]
 · have d16:=tT h16
   by_cases h17:y=17
   · have d17:=tU h17
     obtain⟨h',k1,k2,k3⟩:=yP st 3 3 rfl (by omega)
     have e:wy c y acc S=((0,3+(vm c 3 S).1),(vm c 3 S).2):=by rw[wy,if_neg h16,if_pos h17]
     rw[e]
     have hg:=zJ c S 3 (by omega)
     have w1:IntKind.wrap .i64 (3+((vm c 3 S).1:Int))=((3+(vm c 3 S).1:Nat):Int):=by
      rw[show(3:Int)+((vm c 3 S).1:Int)=((3+(vm c 3 S).1:Nat):Int)by omega];exact u5 (by omega)
     refine⟨h', ?_,k2,k3⟩
     refine tr (fn:=AP.f80) (e:=[(6,I 0),(7,I (3+(vm c 3 S).1:Nat))]) rfl rfl rfl ?_ rfl
     simp only[I]at *
     simp only[AP.f80,go_sem,d16,d17,k1,w1]
   · have d17:=tT h17
     by_cases h18:y=18
     · have d18:=tU h18
       obtain⟨h',k1,k2,k3⟩:=yP st 7 7 rfl (by omega)
       have e:wy c y acc S=((0,11+(vm c 7 S).1),(vm c 7 S).2):=by rw[wy,if_neg h16,if_neg h17,if_pos h18]
       rw[e]
       have hg:=zJ c S 7 (by omega)
       have w1:IntKind.wrap .i64 (11+((vm c 7 S).1:Int))=((11+(vm c 7 S).1:Nat):Int):=by
        rw[show(11:Int)+((vm c 7 S).1:Int)=((11+(vm c 7 S).1:Nat):Int)by omega];exact u5 (by omega)
       refine⟨h', ?_,k2,k3⟩
       refine tr (fn:=AP.f80) (e:=[(6,I 0),(7,I (11+(vm c 7 S).1:Nat))]) rfl rfl rfl ?_ rfl
       simp only[I]at *
       simp only[AP.f80,go_sem,d16,d17,d18,k1,w1]
     · have d18:=tT h18
       have e:wy c y acc S=((y,1),S):=by rw[wy,if_neg h16,if_neg h17,if_neg h18]
       rw[e]
       refine⟨h, ?_,st,Fr.refl _ _ _⟩
       refine tr (fn:=AP.f80) (e:=[(6,I y),(7,I 1)]) rfl rfl rfl ?_ rfl
       simp only[I]at *
       simp only[AP.f80,go_sem,d16,d17,d18]
def CY (t:ByteArray):List Int→Nat→List Int→List Int
 |[],_,o=>o
 |s::r,p,o=>CY t r (p+3) (o.set s.toNat (vi t p 3))
def wh (t:ByteArray) (y:Int) (acc:List Int) (p:Nat):Option (Int×Nat×Nat):=
 if y=16 then(if acc=[]then none else if p+2≤8* t.size then some (acc.getD (acc.length-1) 0,3+vi t p 2,p+2)else none)
 else if y=17 then(if p+3≤8* t.size then some (0,3+vi t p 3,p+3)else none)
 else if y=18 then(if p+7≤8* t.size then some (0,11+vi t p 7,p+7)else none)
 else some (y,1,p)
def vT (t : ByteArray) (cl : List Int) (many : Nat) : Nat → List Int → Nat → Option (List Int × Nat)
 |0,_,_=>none
 | f + 1, acc, p => if acc.length < many then
     match xQ t cl 15 1 0 p with
     |none=>none
     | some (y, p1) => match wh t y acc p1 with
       |none=>none
       |some (n,times,p2)=>vT t cl many f (acc++List.replicate times n) p2
   else if many<acc.length then none else some (acc,p)
def yj (t : ByteArray) (many : Nat) (p : Nat) : Option (List Int × Nat) :=
 if p+4≤8* t.size then
  let k:=vi t p 4+4
  if p+4+3* k≤8* t.size then
   let cl:=CY t (vH.take k) (p+4) (List.replicate 19 0)
   if vR cl=0 then vT t cl many (8* t.size+1) [] (p+4+3* k)else none
  else none
 else none
theorem FE {h:H} {t:Bool} {N k:Nat} {cs:List AV} (hN:cs.length=N) (hk:k≤N):rL h 1 (.aU t cs 0 N 1) none (some (I k)) none=some (.aU t cs 0 k 1):=by
 simp [rL,hN,aA,Fl hk]
theorem DA:∀s∈vH,0≤s∧s<19:=by decide
def ye (c:SC):List Int→List Int→SS→List Int×SS
 |[],o,S=>(o,S)
 |s::r,o,S=>ye c r (o.set s.toNat ((vm c 3 S).1:Nat)) (vm c 3 S).2
theorem Cy (c:SC):∀(r o:List Int) (S:SS),(ye c r o S).1.length=o.length
 |[],o,S=>rfl
 |s::r,o,S=>by rw[ye,Cy c r];simp
theorem Gz (c : SC) : ∀ (r o : List Int) (S : SS), (∀ y ∈ o, 0 ≤ y ∧ y < 16) → ∀ y ∈ (ye c r o S).1, 0 ≤ y ∧ y < 16
 |[],o,S,h=>h
 | s :: r, o, S, h => by
   rw[ye]
   refine Gz c r _ _ fun y hy=> ?_
   rcases List.mem_or_eq_of_mem_set hy with q|q
   · exact h y q
   · subst q
     have:(vm c 3 S).1<8:=by
      unfold vm;split
      · simpa using vU c.text S.at_ 3
      · simp
     omega
theorem Ed (c:SC):∀(r o:List Int) (S:SS),S.e=0→S.at_+3* r.length≤8* c.text.size→ye c r o S=(CY c.text r S.at_ o,{S with at_:=S.at_+3* r.length})
 |[],o,S,he,h=>rfl
 | s :: r, o, S, he, h => by
   rw[UR]at h
   have eg:vm c 3 S=(vi c.text S.at_ 3,{S with at_:=S.at_+3}):=by rw[vm,if_pos (by omega)]
   rw[ye,eg]
   dsimp only
   rw[Ed c r _ {S with at_:=S.at_+3} he (by dsimp only;omega)]
   simp only[CY,UR]
   rw[show S.at_+3+3* r.length=S.at_+3* (r.length+1)by omega]
theorem FV (c:SC) (n:Nat) (S:SS) (h:S.e=0∨S.e=700):(vm c n S).2.e=0∨(vm c n S).2.e=700:=by
 unfold vm;split
 · exact h
 · rcases h with h|h<;>simp [vo,h]
theorem Ka (c:SC) (n:Nat) (S:SS) (h:S.e=700):(vm c n S).2.e=700:=by
 unfold vm;split
 · exact h
 · simp [vo,h]
theorem I0 (c:SC):∀(r o:List Int) (S:SS),(S.e=0∨S.e=700)→((ye c r o S).2.e=0∨(ye c r o S).2.e=700)
 |[],o,S,h=>h
 |s::r,o,S,h=>by rw[ye];exact I0 c r _ _ (FV c 3 S h)
theorem Ec (c:SC):∀(r o:List Int) (S:SS),S.e=700→(ye c r o S).2.e=700
 |[],o,S,h=>h
 |s::r,o,S,h=>by rw[ye];exact Ec c r _ _ (Ka c 3 S h)
theorem Cx (c:SC):∀(r o:List Int) (S:SS),S.e=0→S.at_≤8* c.text.size→8* c.text.size<S.at_+3* r.length→(ye c r o S).2.e=700
 |[],o,S,he,hle,h=>by simp at h;omega
 | s :: r, o, S, he, hle, h => by
   rw[ye]
   rw[UR]at h
   by_cases hp:S.at_+3≤8* c.text.size
   · have eg:vm c 3 S=(vi c.text S.at_ 3,{S with at_:=S.at_+3}):=by rw[vm,if_pos hp]
     rw[eg]
     exact Cx c r _ _ he hp (by dsimp only;omega)
   · have eg:vm c 3 S=(0,{S with e:=700}):=by rw[vm,if_neg hp,vo,if_pos he]
     rw[eg]
     exact Ec c r _ _ rfl
theorem Fb {c:SC} (a:Nat) (x:AV) (xs:List Int) (hxs:∀s∈xs,0≤s∧s<19) (hxl:xs.length≤19) (hac:a≠c.s∧a≠c.r) (m:AV):∀(q p o:List Int) (S:SS) (h:H) (ov:AV),xs=p++q→Rd h x (ints xs)→(∀i,x.id?≠some i)→St c S h ov→ov.id?≠some a→h.get a=some (ints o)→o.length=19→h.floor≤a→
 ∃ e' h', Lp AP.A [0, 1, 5, 18, 19, 20] AP.f64L1 [(0, .aC c.s 0), (1, m), (5, .aC a 0), (18, x), (19, I xs.length), (20, I p.length)] h = some (.exit 0, e', h') ∧ look e' 0 = .aC c.s 0 ∧ look e' 1 = m ∧ look e' 5 = .aC a 0 ∧
   St c (ye c q o S).2 h' ov∧h'.get a=some (ints (ye c q o S).1)∧h'.floor=h.floor∧h.next≤h'.next∧∀i,i<h.next→i≠c.s→i≠c.r→ov.id?≠some i→i≠a→h'.get i=h.get i
 | [], p, o, S, h, ov, hp, rd, hx, st, hoa, hg, ho, hf => by
   rw[UX]at hp;subst hp
   refine⟨[(0,.aC c.s 0),(1,m),(5,.aC a 0),(18,x),(19,I xs.length),(20,I xs.length),(21,.bool false)],h,sY ?_,rfl,rfl,rfl,st,hg,rfl,uF _,fun _ _ _ _ _ _=>rfl⟩
   have c1:¬(xs.length:Int)<(xs.length:Int):=by omega
   simp only[I]at *
   simp only[AP.f64L1,go_sem,UQ c1]
 | s :: q, p, o, S, h, ov, hp, rd, hx, st, hoa, hg, ho, hf => by
   have hlen:xs.length=p.length+(q.length+1):=by rw[hp];simp
   have c1:(p.length:Int)<(xs.length:Int):=by omega
   have hs:=hxs s (by rw[hp];simp)
   obtain⟨sn,hsn⟩:∃n:Nat,s=n:=U9 hs.1
   subst hsn
   have hv:(ints xs)[p.length]?=some (I sn):=sG (by rw[hp];simp)
   obtain⟨ad,p1,p2⟩:=rd.elem hv
   have p3:=p2 h (fun _ _ q=>q)
   obtain⟨h1,k1,k2,k3⟩:=yP st 3 3 rfl (by omega)
   have hal:a<h.next:=h.lt _ _ hg
   have hg1:h1.get a=some (ints o):=by rw[k3.Bt a hal hac.1 hac.2 hoa];exact hg
   have a1:dc (I sn) 19=some sn:=ki (by omega)
   have hset:(ints o).set sn (I ((vm c 3 S).1:Nat))=ints (o.set sn ((vm c 3 S).1:Nat)):=by simp [ints,List.map_set]
   have hst:tO h1 a sn 1 [I ((vm c 3 S).1:Nat)] (some (ints o))=some (h1.set a (ints (o.set sn ((vm c 3 S).1:Nat)))):=by
    rw[uh (by rw[k3.fl];exact hf) (by rw[pt];omega) rfl,hset]
   have w2:IntKind.wrap .i64 ((p.length:Int)+1)=(((p++[(sn:Int)]).length:Nat):Int):=by
    rw[uZ];exact u5 (n:=p.length+1) (by omega)
   have step:aK (aQ AP.A) bz AP.f64L1 (ax [(0,.aC c.s 0),(1,m),(5,.aC a 0),(18,x),(19,I xs.length),(20,I p.length)] [0,1,5,18,19,20]) h=some (.normal,[(0,.aC c.s 0),(1,m),(5,.aC a 0),(18,x),(19,I xs.length),(20,I (p++[(sn:Int)]).length)],h1.set a (ints (o.set sn ((vm c 3 S).1:Nat)))):=by
    generalize ints (o.set sn ((vm c 3 S).1:Nat))=W at *
    generalize (p++[(sn:Int)]).length=B at *
    generalize (vm c 3 S).1=G at *
    generalize ints o=OO at *
    simp only[I]at *
    simp only[AP.f64L1,go_sem,US c1,p1,p3,k1,a1,hg1,hst,w2]
   have st2:St c (vm c 3 S).2 (h1.set a (ints (o.set sn ((vm c 3 S).1:Nat)))) ov:=k2.wN (by simp) (by simp) fun i hi=>by
    rw[H.dE,if_neg]
    rintro rfl
    rcases hi with hi|hi|hi
    · exact hac.1 hi
    · exact hac.2 hi
    · exact hoa hi
   have rd2:Rd (h1.set a (ints (o.set sn ((vm c 3 S).1:Nat)))) x (ints xs):=by
    refine⟨?_,rd.2⟩
    have:=rd.1
    unfold aR at this ⊢
    split at this
    · exact this
    · exact this
    · exact absurd rfl (hx _)
    · exact this
    · cases this
   obtain⟨e',h',q1,q2,q3,q4,q5,q6,q7,q8,q9⟩:=Fb a x xs hxs hxl hac m q (p++[(sn:Int)]) (o.set sn ((vm c 3 S).1:Nat)) _ _ ov (by rw[hp];simp) rd2 hx st2 hoa (by rw[H.dE,if_pos rfl,hg1];rfl) (by simpa using ho) (by simp [k3.fl];exact hf)
   refine⟨e',h',sZ step q1,q2,q3,q4, ?_, ?_,by rw[q7];simp [k3.fl],by have:=k3.nx;simp at q8;omega,fun i i1 i2 i3 i4 i5=> ?_⟩
   · rw[ye];exact q5
   · rw[ye];exact q6
   · rw[q9 i (by have:=k3.nx;simp;omega) i2 i3 i4 i5,H.dE,if_neg i5,k3.Bt i i1 i2 i3 i4]
theorem yu {c:SC} {S:SS} {h:H} {ov:AV} (st:St c S h ov) (b:AV) (many:Nat) {av:AV} {acc:List Int} (oa:mX h av (ints acc)) (hs:many≤acc.length∨(acc.length<many∧S.e≠0)):
 ∃e',Lp AP.A [0,1,9,10] AP.f64L0 [(0,.aC c.s 0),(1,I many),(9,b),(10,av)] h=some (.exit 2,e',h)∧look e' 0=.aC c.s 0∧look e' 1=I many∧look e' 10=av:=by
 have gs:=st.gs
 have ln:=oa.len
 rw[pt]at ln
 refine⟨[(0,.aC c.s 0),(1,I many),(9,b),(10,av),(46,.bool false)],sY ?_,rfl,rfl,rfl⟩
 rcases hs with hs|⟨hs,he⟩
 · have c1:¬(acc.length:Int)<many:=by omega
   simp only[I]at *
   simp only[AP.f64L0,go_sem,ln,UQ c1]
 · have c1:(acc.length:Int)<many:=by omega
   have c2:=tT he
   simp only[I]at *
   simp only[AP.f64L0,go_sem,ln,US c1,gs,c2]
theorem Hc {c : SC} {S : SS} {y : Int} {acc : List Int} (he : S.e = 0) :
 match wh c.text y acc S.at_ with
 |some (n,times,p)=>wy c y acc S=((n,times),{S with at_:=p})∧S.at_≤p
 |none=>(wy c y acc S).2.e=700:=by
 unfold wh wy
 by_cases h16:y=16
 · rw[if_pos h16,if_pos h16]
   by_cases hn:acc=[]
   · rw[if_pos hn,if_pos hn];simp [vo,he]
   · rw[if_neg hn,if_neg hn]
     by_cases hp:S.at_+2≤8* c.text.size
     · simp [vm,hp]
     · simp [vm,hp,vo,he]
 · rw [if_neg h16, if_neg h16]
   by_cases h17:y=17
   · rw[if_pos h17,if_pos h17]
     by_cases hp:S.at_+3≤8* c.text.size
     · simp [vm,hp]
     · simp [vm,hp,vo,he]
   · rw[if_neg h17,if_neg h17]
     by_cases h18:y=18
     · rw[if_pos h18,if_pos h18]
       by_cases hp:S.at_+7≤8* c.text.size
       · simp [vm,hp]
       · simp [vm,hp,vo,he]
     · rw[if_neg h18,if_neg h18]
       exact⟨rfl,uF _⟩
theorem DP (c:SC) (y:Int) (acc:List Int) (S:SS):(wy c y acc S).1.2<70000:=by
 unfold wy
 have h2:=zJ c S 2 (by omega)
 have h3:=zJ c S 3 (by omega)
 have h7:=zJ c S 7 (by omega)
 repeat' split
 all_goals (dsimp only;omega)
theorem Dq {c : SC} (h0 : H) (cl : List Int) (hcl : cl.length < 100000) (many : Nat) (hm : many ≤ 400) : ∀ (f : Nat) (acc : List Int) (S : SS) (h : H) (ov av : AV), St c S h ov → S.e = 0 → 8 * c.text.size < S.at_ + f → Fr c h0 ov h ov → mX h av (ints acc) → acc.length < 80000 → (∀ i, av.id? = some i → h0.next ≤ i) → (∀ i, (i = c.s ∨ i = c.r ∨ ov.id? = some i) → i < h0.next) →
 ∃ e' h' S' av' acc', Lp AP.A [0, 1, 9, 10] AP.f64L0 [(0, .aC c.s 0), (1, I many), (9, vJ cl), (10, av)] h = some (.exit 2, e', h') ∧ look e' 0 = .aC c.s 0 ∧ look e' 1 = I many ∧ look e' 10 = av' ∧ St c S' h' ov ∧ Fr c h0 ov h' ov ∧ mX h' av' (ints acc') ∧ acc'.length < 200000 ∧ (∀ i, av'.id? = some i → h0.next ≤ i) ∧
   match vT c.text cl many f acc S.at_ with
   |some (L,p)=>S'={S with at_:=p}∧acc'=L∧L.length=many
   |none=>S'.e=700∨(S'.e=0∧many<acc'.length)
 |0,acc,S,h,ov,av,st,he,hk,fr,oa,hal,hid,hlo=>by have:=st.wP;omega
 | f + 1, acc, S, h, ov, av, st, he, hk, fr, oa, hal, hid, hlo => by
   by_cases hlt:acc.length<many
   · rw [vT, if_pos hlt]
     have gs:=st.gs
     have ln:=oa.len
     rw[pt]at ln
     have c1:(acc.length:Int)<many:=by omega
     obtain⟨h1,S1,y,s1,s2,s3,s4⟩:=CQ cl hcl st he
     have hneq:∀i,av.id?=some i→i≠c.s∧i≠c.r∧ov.id?≠some i:=fun i hi=>by
      have:=hid i hi
      refine⟨fun e=> ?_,fun e=> ?_,fun e=> ?_⟩
      · have:=hlo i (.inl e);omega
      · have:=hlo i (.inr (.inl e));omega
      · have:=hlo i (.inr (.inr e));omega
     have oa1:mX h1 av (ints acc):=oa.mono s3.fl fun i hi=>s3.Bt i (oa.lt hi) (hneq i hi).1 (hneq i hi).2.1 (hneq i hi).2.2
     obtain⟨h2,r1,r2,r3⟩:=JH s2 y oa1 (by omega) hneq
     have oa2:mX h2 av (ints acc):=oa1.mono r3.fl fun i hi=>r3.Bt i (oa1.lt hi) (hneq i hi).1 (hneq i hi).2.1 (hneq i hi).2.2
     obtain⟨n,hn⟩:∃n,n=(wy c y acc S1).1.1:=⟨_,rfl⟩
     obtain⟨times,htm⟩:∃n,n=(wy c y acc S1).1.2:=⟨_,rfl⟩
     obtain⟨S2,hS2⟩:∃n,n=(wy c y acc S1).2:=⟨_,rfl⟩
     have htb:=DP c y acc S1
     rw[←hn,←htm]at r1;rw[←hS2]at r2;rw[←htm]at htb
     have al:=r2.alloc [I n]
     have rp:=yS (h2.alloc [I n]) (.aD h2.next 0 1 1) n times (by omega) (zP _ _)
     have oa3:mX (h2.alloc [I n]) av (ints acc):=oa2.mono (by simp) fun i hi=>by
      have:=oa2.lt hi;rw[H.aV,if_neg (by omega)]
     have hfr3:=((fr.trans s3).trans r3).trans al.2
     have hap:∃v' h3,kD (h2.alloc [I n]) 1 8 av (.aU false (ints (List.replicate times n)) 0 times 1)=some (v',h3)∧mX h3 v' (ints (acc++List.replicate times n))∧St c S2 h3 ov∧Fr c h0 ov h3 ov∧∀i,v'.id?=some i→h0.next≤i:=by
      have src:aR (h2.alloc [I n]) 1 (.aU false (ints (List.replicate times n)) 0 times 1)=some (times,ints (List.replicate times n)):=by
       simp [aR,uU]
      by_cases ht0:times=0
      · subst ht0
        refine⟨av,h2.alloc [I n], ?_,by simpa using oa3,al.1,hfr3,hid⟩
        unfold kD
        rw[src,uC]
        unfold dS
        rw[if_pos rfl]
        rcases oa3 with ⟨rfl,_⟩|⟨id,rfl,_⟩<;>rfl
      · have hnx:=al.1.nx
        obtain⟨v',h3,q1,q2,q3,q4,q5,q6⟩:=oa3.apps hnx (z:=8) (ints (List.replicate times n)) (jK _) (by simp;omega) (by simp [roomy];omega)
        refine⟨v',h3, ?_,by rw[pq];exact q2,al.1.wN q3 q4 fun i hi=> ?_,⟨q3.trans hfr3.fl,uX hfr3.nx q4,fun id i1 i2 i3 i4=> ?_,fun i hi=>.inl hi⟩,fun i hi=> ?_⟩
        · unfold kD
          rw[src,uC]
          have hl:(ints (List.replicate times n)).length=times:=by simp
          rw[hl]at q1;exact q1
        · have hlt0:=hlo i hi
          have hle:h0.next≤(h2.alloc [I n]).next:=hfr3.nx
          exact q5 i (fun e=>by have:=hid i e;omega) (by omega)
        · have hle:h0.next≤(h2.alloc [I n]).next:=hfr3.nx
          rw[q5 id (fun e=>by have:=hid id e;omega) (by omega)]
          exact hfr3.Bt id i1 i2 i3 i4
        · rw[q6]at hi;cases hi;exact hfr3.nx
     obtain⟨v',h3,ap1,ap2,ap3,ap4,ap5⟩:=hap
     have step:aK (aQ AP.A) bz AP.f64L0 (ax [(0,.aC c.s 0),(1,I many),(9,vJ cl),(10,av)] [0,1,9,10]) h=some (.normal,[(0,.aC c.s 0),(1,I many),(9,vJ cl),(10,v')],h3):=by
      have bs:∀(e:Env),look e 57=.int .i64 n→aX e (.cR 1 1 [.int .i64 0] [(0,.t 57)])=some ([.int .i64 n],fun i=>.aD i 0 1 1):=by
       intro e q
       simp only[aX,U5,Vf,rU,q];rfl
      simp only[I]at *
      simp only[AP.f64L0,go_sem,ln,US c1,gs,he,s1,r1]
      rw[bs _ rfl]
      simp only[go_sem,rp,ap1]
     have hacc':(acc++List.replicate times n).length<80000:=by simp;omega
     cases hz:xQ c.text cl 15 1 0 S.at_ with
     | none =>
       rw[hz]at s4
       obtain⟨s4,s5⟩:=s4
       have hy:y=256:=s5
       have hag:wy c y acc S1=((y,1),S1):=by rw[wy,if_neg (by omega),if_neg (by omega),if_neg (by omega)]
       have hS2e:S2.e=700:=by rw[hS2,hag];exact s4
       dsimp only
       by_cases hlt2:(acc++List.replicate times n).length<many
       · obtain⟨e',q1,q2,q3,q4⟩:=yu ap3 (vJ cl) many ap2 (.inr ⟨hlt2,by rw[hS2e];decide⟩)
         exact⟨e',h3,S2,v',_,sZ step q1,q2,q3,q4,ap3,ap4,ap2,by omega,ap5,.inl hS2e⟩
       · obtain⟨e',q1,q2,q3,q4⟩:=yu ap3 (vJ cl) many ap2 (.inl (by omega))
         exact⟨e',h3,S2,v',_,sZ step q1,q2,q3,q4,ap3,ap4,ap2,by omega,ap5,.inl hS2e⟩
     | some yp =>
       obtain⟨z,p1⟩:=yp
       rw[hz]at s4
       obtain⟨s4,s5⟩:=s4
       subst s5 s4
       have zb:=xK hz
       have hok:=Hc (c:=c) (S:={S with at_:=p1}) (y:=y) (acc:=acc) he
       dsimp only at hok ⊢
       cases ha:wh c.text y acc p1 with
       | none =>
         rw[ha]at hok
         have hS2e:S2.e=700:=by rw[hS2];exact hok
         dsimp only
         by_cases hlt2:(acc++List.replicate times n).length<many
         · obtain⟨e',q1,q2,q3,q4⟩:=yu ap3 (vJ cl) many ap2 (.inr ⟨hlt2,by rw[hS2e];decide⟩)
           exact⟨e',h3,S2,v',_,sZ step q1,q2,q3,q4,ap3,ap4,ap2,by omega,ap5,.inl hS2e⟩
         · obtain⟨e',q1,q2,q3,q4⟩:=yu ap3 (vJ cl) many ap2 (.inl (by omega))
           exact⟨e',h3,S2,v',_,sZ step q1,q2,q3,q4,ap3,ap4,ap2,by omega,ap5,.inl hS2e⟩
       | some q =>
         obtain⟨n2,t2,p2⟩:=q
         rw[ha]at hok
         obtain⟨hok,hp12⟩:=hok
         rw[hok]at hn htm hS2
         dsimp only at hn htm hS2
         subst hn htm hS2
         obtain⟨e',h',S',av',acc',q1,q2,q3,q4,q5,q6,q7,q8,q9,q10⟩:=Dq h0 cl hcl many hm f (acc++List.replicate times n) _ h3 ov v' ap3 he (by dsimp only;omega) ap4 ap2 hacc' ap5 hlo
         exact⟨e',h',S',av',acc',sZ step q1,q2,q3,q4,q5,q6,q7,q8,q9,q10⟩
   · obtain⟨e',q1,q2,q3,q4⟩:=yu st (vJ cl) many oa (.inl (by omega))
     refine⟨e',h,S,av,acc,q1,q2,q3,q4,st,fr,oa,by omega,hid, ?_⟩
     rw[vT,if_neg hlt]
     by_cases hgt:many<acc.length
     · rw[if_pos hgt];exact .inr ⟨he,hgt⟩
     · rw[if_neg hgt];exact⟨rfl,rfl,by omega⟩
theorem HC {c : SC} {S : SS} {h : H} {ov : AV} (st : St c S h ov) (he : S.e = 0) (many : Nat) (hm0 : 0 < many) (hm : many ≤ 400) :
 ∃ h' S' av acc, aQ AP.A 64 [.aC c.s 0, I many] h = some (av, h') ∧ St c S' h' ov ∧ Fr c h ov h' ov ∧ mX h' av (ints acc) ∧ (∀ i, av.id? = some i → h.next ≤ i) ∧ match yj c.text many S.at_ with
   |some (L,p)=>S'={S with at_:=p}∧acc=L∧L.length=many
   |none=>S'.e=700:=by
 have gs:=st.gs
 obtain⟨a,ha⟩:∃a,a=h.next:=⟨_,rfl⟩
 obtain⟨g0,hg0⟩:∃g,g=h.alloc (ints (List.replicate 19 0)):=⟨_,rfl⟩
 have al:=st.alloc (ints (List.replicate 19 0))
 rw[←hg0]at al
 have hga:g0.get a=some (ints (List.replicate 19 0)):=by rw[hg0,H.aV,if_pos ha]
 have oc:=Kr g0
 obtain⟨h1,k1,k2,k3⟩:=yP al.1 4 4 rfl (by omega)
 obtain⟨G,hG⟩:∃G,G=(vm c 4 S).1:=⟨_,rfl⟩
 obtain⟨S1,hS1⟩:∃G,G=(vm c 4 S).2:=⟨_,rfl⟩
 rw[←hG]at k1;rw[←hS1]at k2
 have hG16:G<16:=by
  rw[hG];unfold vm;split
  · simpa using vU c.text S.at_ 4
  · simp
 have w1:IntKind.wrap .i64 ((G:Int)+4)=((G+4:Nat):Int):=u5 (n:=G+4) (by omega)
 obtain⟨x,hx⟩:∃x,x=AV.aU false (ints vH) 0 (G+4) 1:=⟨_,rfl⟩
 have sl:rL h1 1 (wk vH) none (some (I (G+4:Nat))) none=some x:=by
  rw[hx];exact FE (by rw[pt]) (by show G+4≤19;omega)
 have xl:jc false x=some (I (G+4:Nat)):=by rw[hx];rfl
 obtain⟨xs,hxs⟩:∃xs,xs=vH.take (G+4):=⟨_,rfl⟩
 have hol:vH.length=19:=rfl
 have hxsl:xs.length=G+4:=by rw[hxs,List.length_take,hol];omega
 have rdx:Rd h1 x (ints xs):=by
  refine⟨?_,by rw[hx];intro s e;cases e⟩
  have ht:(ints vH).take (G+4)=ints xs:=by rw[hxs];simp [ints,List.map_take]
  simp only[aR,hx,if_true]
  rw[if_pos (by rw[pt,hol];omega),U1,Vk,ht];simp [hxsl]
 have hac:a≠c.s∧a≠c.r:=⟨fun e=>by have:=st.lt (.inl e);omega,fun e=>by have:=st.lt (.inr (.inl e));omega⟩
 have hoa:ov.id?≠some a:=fun e=>by have:=st.lt (.inr (.inr e));omega
 have hga1:h1.get a=some (ints (List.replicate 19 0)):=by rw[k3.Bt a (g0.lt _ _ hga) hac.1 hac.2 hoa];exact hga
 have hfa:h1.floor≤a:=by rw[k3.fl,hg0,ha];simp;exact st.nx
 obtain⟨e2,h2,l1,l2,l3,l4,l5,l6,l7,l8,l9⟩:=Fb (c:=c) a x xs (fun s hs=>DA s (List.mem_of_mem_take (hxs ▸ hs))) (by omega) hac (I many) xs [] (List.replicate 19 0) S1 h1 ov rfl rdx (by rw[hx];intro i e;cases e) k2 hoa hga1 (by simp) hfa
 obtain⟨cl,hcl⟩:∃cl,cl=(ye c xs (List.replicate 19 0) S1).1:=⟨_,rfl⟩
 obtain⟨S2,hS2⟩:∃cl,cl=(ye c xs (List.replicate 19 0) S1).2:=⟨_,rfl⟩
 rw[←hS2]at l5;rw[←hcl]at l6
 have hcll:cl.length=19:=by rw[hcl,Cy];simp
 have hclb:∀y∈cl,0≤y∧y<16:=by
  rw[hcl];refine Gz c _ _ _ fun y hy=> ?_
  obtain⟨_,rfl⟩:=List.mem_replicate.1 hy;omega
 rw[hxsl]at l1
 have l1':Lp AP.A [0,1,5,18,19,20] AP.f64L1 [(0,.aC c.s 0),(1,I many),(5,.aC a 0),(18,x),(19,I (G+4:Nat)),(20,I 0)] h1=some (.exit 0,e2,h2):=l1
 clear l1
 have fr2:Fr c h ov h2 ov:=by
  refine⟨by rw[l7,k3.fl,al.2.fl], ?_,fun id i1 i2 i3 i4=> ?_,fun i hi=>.inl hi⟩
  · have:=al.2.nx;have:=k3.nx;omega
  · have hn0:g0.next=h.next+1:=by rw[hg0];simp
    have:=k3.nx
    rw[l9 id (by omega) i2 i3 i4 (by omega),k3.Bt id (by omega) i2 i3 i4,al.2.Bt id i1 i2 i3 i4]
 have rB:lZ h2 19 1 (.aC a 0) none none=some (.aD a 0 19 1):=by
  simp [lZ,l6,aA,hcll]
 have hR:Rd h2 (.aD a 0 19 1) (ints cl):=by
  refine⟨?_,by intro s e;cases e⟩
  simp [aR,l6,hcll,uU]
 have ck:=DW h2 (.aD a 0 19 1) cl (by omega) hR
 have mk:=z5 h2 (.aD a 0 19 1) cl (by omega) hclb hR
 have hhead:(vR cl=0∧S2.e=0∧S.at_+4≤8* c.text.size∧S.at_+4+3* (vi c.text S.at_ 4+4)≤8* c.text.size∧cl=CY c.text (vH.take (vi c.text S.at_ 4+4)) (S.at_+4) (List.replicate 19 0)∧S2={S with at_:=S.at_+4+3* (vi c.text S.at_ 4+4)})∨((vR cl≠0∨S2.e≠0)∧(S2.e=0∨S2.e=700)∧yj c.text many S.at_=none):=by
  by_cases hp:S.at_+4≤8* c.text.size
  · have eg:vm c 4 S=(vi c.text S.at_ 4,{S with at_:=S.at_+4}):=by rw[vm,if_pos hp]
    rw[eg]at hG hS1;dsimp only at hG hS1
    subst hS1
    by_cases hp2:S.at_+4+3* (vi c.text S.at_ 4+4)≤8* c.text.size
    · have ok:=Ed c xs (List.replicate 19 0) {S with at_:=S.at_+4} he (by dsimp only;omega)
      rw[ok]at hcl hS2
      dsimp only at hcl hS2
      rw[hxsl,hG]at hS2
      rw[hxs,hG]at hcl
      by_cases hck:vR cl=0
      · exact .inl ⟨hck,by rw[hS2];exact he,hp,hp2,hcl,hS2⟩
      · refine .inr ⟨.inl hck,.inl (by rw[hS2];exact he), ?_⟩
        rw[yj,if_pos hp];dsimp only;rw[if_pos hp2,←hcl,if_neg hck]
    · have hb:=Cx c xs (List.replicate 19 0) {S with at_:=S.at_+4} he (by dsimp only;omega) (by dsimp only;omega)
      rw[←hS2]at hb
      refine .inr ⟨.inr (by rw[hb];decide),.inr hb, ?_⟩
      rw[yj,if_pos hp];dsimp only;rw[if_neg hp2]
  · have eg:vm c 4 S=(0,{S with e:=700}):=by rw[vm,if_neg hp,vo,if_pos he]
    rw[eg]at hS1;dsimp only at hS1
    have hb:=Ec c xs (List.replicate 19 0) S1 (by rw[hS1])
    rw[←hS2]at hb
    exact .inr ⟨.inr (by rw[hb];decide),.inr hb,by rw[yj,if_neg hp]⟩
 have hbk:∀(h3:H) (S3:SS),St c S3 h3 ov→Fr c h ov h3 ov→aQ AP.A 41 [.aD a 0 19 1] h3=some (vJ cl,h3)→lZ h3 19 1 (.aC a 0) none none=some (.aD a 0 19 1)→
  (aK (aQ AP.A) bz (.cond (.t 31) (.oI [⟨some 32,.mv (.t 0),none⟩,⟨some 33,.call (.c (.fn 45 [] [])) [(.t 32),(.c (.int .i64 700))],none⟩] [0,1,5]) .skip [0,1,5]) [(0,.aC c.s 0),(1,I many),(5,.aC a 0),(31,.bool (vR cl !=0))] h2=some (.normal,[(0,.aC c.s 0),(1,I many),(5,.aC a 0)],h3))→
  ∀(e4:Env) (h4:H) (av:AV) (acc:List Int) (h5:H),Lp AP.A [0,1,9,10] AP.f64L0 [(0,.aC c.s 0),(1,I many),(9,vJ cl),(10,.aO)] h3=some (.exit 2,e4,h4)→look e4 0=.aC c.s 0→look e4 1=I many→look e4 10=av→jc false av=some (I acc.length)→
  (many<acc.length→aQ AP.A 45 [.aC c.s 0,I 700] h4=some (.bO [],h5))→(¬many<acc.length→h5=h4)→aQ AP.A 64 [.aC c.s 0,I many] h=some (av,h5):=by
  intro h3 S3 st3 fr3 mk3 sla3 cnd e4 h4 av acc h5 m1 m2 m3 m4 m5 m6 m7
  refine tr (fn:=AP.f64) (e:=[(4,av)]) (vs:=[av]) rfl rfl rfl ?_ rfl
  have bt:∀e:Env,aX e (.alloc [.int .i64 0,.int .i64 0,.int .i64 0,.int .i64 0,.int .i64 0,.int .i64 0,.int .i64 0,.int .i64 0,.int .i64 0,.int .i64 0,.int .i64 0,.int .i64 0,.int .i64 0,.int .i64 0,.int .i64 0,.int .i64 0,.int .i64 0,.int .i64 0,.int .i64 0])=some (ints (List.replicate 19 0),fun i=>.aC i 0):=fun _=>rfl
  unfold AP.f64
  refine ue (e1:=[(0,.aC c.s 0),(1,I many)]) (h1:=h) rfl ?_
  refine ue (e1:=[(0,.aC c.s 0),(1,I many),(5,.aC a 0)]) (h1:=g0) ?_ ?_
  · simp only[go_sem,bt,←hg0,←ha]
  refine ue (e1:=[(0,.aC c.s 0),(1,I many),(5,.aC a 0),(6,wk vH)]) (h1:=g0) ?_ ?_
  · simp only[go_sem,oc]
  refine ue (e1:=[(0,.aC c.s 0),(1,I many),(5,.aC a 0)]) (h1:=h2) ?_ ?_
  · clear bt
    simp only[I]at *
    simp only[go_sem,k1,w1,UU,U6,sl,xl,rR,l1',l2,l3,l4]
  refine ue (e1:=[(0,.aC c.s 0),(1,I many),(5,.aC a 0)]) (h1:=h3) ?_ ?_
  · refine ue (e1:=[(0,.aC c.s 0),(1,I many),(5,.aC a 0),(31,.bool (vR cl !=0))]) (h1:=h2) ?_ cnd
    simp only[I]at *
    simp only[go_sem,U6,rB,ck]
  refine ue (e1:=[(0,.aC c.s 0),(1,I many),(9,vJ cl)]) (h1:=h3) ?_ ?_
  · simp only[go_sem,U6,sla3,mk3]
  refine ue (e1:=[(0,.aC c.s 0),(1,I many),(9,vJ cl),(10,.aO)]) (h1:=h3) rfl ?_
  refine ue (e1:=[(0,.aC c.s 0),(1,I many),(10,av)]) (h1:=h4) ?_ ?_
  · simp only[go_sem,rR,m1,m2,m3,m4]
  refine ue (e1:=[(10,av)]) (h1:=h5) ?_ ?_
  · by_cases hgt:many<acc.length
    · have c1:(many:Int)<(acc.length:Int):=by omega
      have m6':=m6 hgt
      clear m6 m7
      simp only[I]at *
      simp only[go_sem,m5,US c1,m6']
    · have c1:¬(many:Int)<(acc.length:Int):=by omega
      have m7':=m7 hgt
      subst m7'
      clear m6 m7
      simp only[I]at *
      simp only[go_sem,m5,UQ c1]
  simp only[go_sem]
 rcases hhead with ⟨hck,he2,hp,hp2,hcl2,hS22⟩|⟨hbad,he2,hnone⟩
 · have hlen0:yj c.text many S.at_=vT c.text cl many (8* c.text.size+1) [] S2.at_:=by
    rw[yj,if_pos hp];dsimp only;rw[if_pos hp2,←hcl2,if_pos hck,hS22]
   have cnd:aK (aQ AP.A) bz (.cond (.t 31) (.oI [⟨some 32,.mv (.t 0),none⟩,⟨some 33,.call (.c (.fn 45 [] [])) [(.t 32),(.c (.int .i64 700))],none⟩] [0,1,5]) .skip [0,1,5]) [(0,.aC c.s 0),(1,I many),(5,.aC a 0),(31,.bool (vR cl !=0))] h2=some (.normal,[(0,.aC c.s 0),(1,I many),(5,.aC a 0)],h2):=by
    have cb:(vR cl !=0)=false:=tV hck
    simp only[go_sem,cb]
   obtain⟨e4,h4,S4,av,acc,m1,m2,m3,m4,m5,m6,m7,m8,m9,m10⟩:=Dq h cl (by omega) many hm (8* c.text.size+1) [] S2 h2 ov .aO l5 he2 (by omega) fr2 (.inl ⟨rfl,rfl⟩) (by simp) (fun i q=>by cases q) (fun i hi=>st.lt hi)
   have ln:=m7.len
   rw[pt]at ln
   rw[hlen0]
   cases hL:vT c.text cl many (8* c.text.size+1) [] S2.at_ with
   | some q =>
     obtain⟨L,p⟩:=q
     rw[hL]at m10
     obtain⟨n1,n2,n3⟩:=m10
     have hng:¬many<acc.length:=by rw[n2];omega
     refine⟨h4,S4,av,acc,hbk h2 S2 l5 fr2 mk rB cnd e4 h4 av acc h4 m1 m2 m3 m4 ln (fun q=>absurd q hng) (fun _=>rfl),m5,m6,m7,m9, ?_,n2,n3⟩
     rw[n1,hS22]
   | none =>
     rw[hL]at m10
     dsimp only at m10 ⊢
     by_cases hgt:many<acc.length
     · obtain⟨h5,f1,f2,f3⟩:=xp m5 700
       refine⟨h5,vo 700 S4,av,acc,hbk h2 S2 l5 fr2 mk rB cnd e4 h4 av acc h5 m1 m2 m3 m4 ln (fun _=>f1) (fun q=>absurd hgt q),f2,m6.trans f3, ?_,m9, ?_⟩
       · refine m7.mono f3.fl fun i hi=>f3.Bt i (m7.lt hi) (fun e=> ?_) (fun e=> ?_) (fun e=> ?_)
         · have:=m9 i hi;have:=st.lt (.inl e);omega
         · have:=m9 i hi;have:=st.lt (.inr (.inl e));omega
         · have:=m9 i hi;have:=st.lt (.inr (.inr e));omega
       · rcases m10 with q|⟨q,_⟩<;>simp [vo,q]
     · refine⟨h4,S4,av,acc,hbk h2 S2 l5 fr2 mk rB cnd e4 h4 av acc h4 m1 m2 m3 m4 ln (fun q=>absurd q hgt) (fun _=>rfl),m5,m6,m7,m9, ?_⟩
       rcases m10 with q|⟨_,q⟩
       · exact q
       · exact absurd q hgt
 · rw [hnone]
   have key:∃h3 S3,St c S3 h3 ov∧Fr c h ov h3 ov∧S3.e=700∧h3.get a=some (ints cl)∧aK (aQ AP.A) bz (.cond (.t 31) (.oI [⟨some 32,.mv (.t 0),none⟩,⟨some 33,.call (.c (.fn 45 [] [])) [(.t 32),(.c (.int .i64 700))],none⟩] [0,1,5]) .skip [0,1,5]) [(0,.aC c.s 0),(1,I many),(5,.aC a 0),(31,.bool (vR cl !=0))] h2=some (.normal,[(0,.aC c.s 0),(1,I many),(5,.aC a 0)],h3):=by
    by_cases hck:vR cl=0
    · have hb:S2.e≠0:=by rcases hbad with q|q;exact absurd hck q;exact q
      refine⟨h2,S2,l5,fr2,by rcases he2 with q|q;exact absurd q hb;exact q,l6, ?_⟩
      have cb:(vR cl !=0)=false:=tV hck
      simp only[go_sem,cb]
    · obtain⟨h3,f1,f2,f3⟩:=xp l5 700
      refine⟨h3,vo 700 S2,f2,fr2.trans f3,by rcases he2 with q|q<;>simp [vo,q],by rw[f3.Bt a (h2.lt _ _ l6) hac.1 hac.2 hoa];exact l6, ?_⟩
      have cb:(vR cl !=0)=true:=tW hck
      simp only[I]at *
      simp only[go_sem,cb,f1]
   obtain⟨h3,S3,st3,fr3,he3,hg3,cnd⟩:=key
   have sla3:lZ h3 19 1 (.aC a 0) none none=some (.aD a 0 19 1):=by
    simp [lZ,hg3,aA,hcll]
   have rdc3:Rd h3 (.aD a 0 19 1) (ints cl):=by
    refine⟨?_,by intro s e;cases e⟩
    simp [aR,hg3,hcll,uU]
   have mk3:=z5 h3 (.aD a 0 19 1) cl (by omega) hclb rdc3
   obtain⟨e4,m1,m2,m3,m4⟩:=yu st3 (vJ cl) many (av:=.aO) (acc:=[]) (.inl ⟨rfl,rfl⟩) (.inr ⟨by simpa using hm0,by rw[he3];decide⟩)
   exact⟨h3,S3,.aO,[],hbk h3 S3 st3 fr3 mk3 sla3 cnd e4 h3 .aO [] h3 m1 m2 m3 m4 rfl (fun q=>by simp at q) (fun _=>rfl),st3,fr3,.inl ⟨rfl,rfl⟩,(fun i q=>by cases q),he3⟩
def xx (l:List Int):Prop:=∀y∈l,0≤y∧y<16
theorem FD {t : ByteArray} {y : Int} {acc : List Int} {n : Int} {q times p2 : Nat} (hy : 0 ≤ y ∧ y < 19) (ha : xx acc) (h : wh t y acc q = some (n, times, p2)) : 0 ≤ n ∧ n < 16 := by
 unfold wh at h
 split at h
 · split at h
   · cases h
   · rename_i hn
     split at h
     · have:=Vi (fun o=>o.map (·.1)) h
       simp only[UU,uy]at this
       rw[←this]
       have hl:0<acc.length:=List.length_pos_iff.2 hn
       refine ha _ ?_
       rw[List.getD_eq_getElem?_getD,Vb (by omega)]
       exact List.getElem_mem _
     · cases h
 · split at h
   · split at h
     · have:=Vi (fun o=>o.map (·.1)) h
       simp only[UU,uy]at this;omega
     · cases h
   · split at h
     · split at h
       · have:=Vi (fun o=>o.map (·.1)) h
         simp only[UU,uy]at this;omega
       · cases h
     · have:=Vi (fun o=>o.map (·.1)) h
       simp only[UU,uy]at this;omega
theorem Ay {t : ByteArray} {cl : List Int} (hcl : cl.length = 19) {many : Nat} : ∀ {f : Nat} {acc : List Int} {p : Nat} {L : List Int} {p2 : Nat}, xx acc → vT t cl many f acc p = some (L, p2) → xx L
 |0,_,_,_,_,_,h=>by cases h
 | f + 1, acc, p, L, p2, ha, h => by
   rw[vT]at h
   split at h
   · split at h
     · cases h
     · rename_i y p1 hs
       have sb:=xK hs
       split at h
       · cases h
       · rename_i n times q hag
         have hr:=FD ⟨sb.1,by omega⟩ ha hag
         exact Ay hcl (fun y hy=>by
          rcases List.mem_append.1 hy with hy|hy
          · exact ha y hy
          · obtain⟨_,rfl⟩:=List.mem_replicate.1 hy;exact hr) h
   · split at h
     · cases h
     · have:=Vi (fun o=>o.map (·.1)) h
       simp only[UU,uy]at this;rw[←this];exact ha
theorem Fa (t:ByteArray):∀(r:List Int) (p:Nat) (o:List Int),(CY t r p o).length=o.length
 |[],_,_=>rfl
 |s::r,p,o=>by rw[CY,Fa t r];simp
theorem Dp {t:ByteArray} {many p:Nat} {L:List Int} {p2:Nat} (h:yj t many p=some (L,p2)):xx L:=by
 unfold yj at h
 split at h
 · dsimp only at h
   split at h
   · split at h
     · exact Ay (by rw[Fa];simp) (fun y hy=>by cases hy) h
     · cases h
   · cases h
 · cases h
def CV (t : ByteArray) (most : Int) (p : Nat) (out : List Nat) : Rs :=
 if p+10≤8* t.size then
  let lits:=vi t p 5+257
  let dists:=vi t (p+5) 5+1
  if 286<lits∨30<dists then .error 700 else
  match yj t (lits+dists) (p+10)with
  |none=>.error 700
  | some (L, p2) =>
    if vR (L.take lits)≠0∨(L.take lits).getD 256 0=0∨(vR (L.drop lits)≠0∧wJ (L.drop lits)=false)then .error 700
    else xH t most (L.take lits) (L.drop lits) (8* t.size+1) p2 out
 else .error 700
theorem Hq {c : SC} {S : SS} {h : H} {ov : AV} (st : St c S h ov) (he : S.e = 0) :
 ∃h' ov' S',aQ AP.A 44 [.aC c.s 0] h=some (.bO [],h')∧St c S' h' ov'∧Fr c h ov h' ov'∧Fin (CV c.text c.most S.at_ S.out) S':=by
 obtain⟨h1,a1,a2,a3⟩:=yP st 5 5 rfl (by omega)
 obtain⟨h2,b1,b2,b3⟩:=yP a2 5 5 rfl (by omega)
 obtain⟨A,hA⟩:∃n,n=(vm c 5 S).1:=⟨_,rfl⟩
 obtain⟨S1,hS1⟩:∃n,n=(vm c 5 S).2:=⟨_,rfl⟩
 rw[←hA]at a1;rw[←hS1]at a2 b1 b2
 obtain⟨B,hB⟩:∃n,n=(vm c 5 S1).1:=⟨_,rfl⟩
 obtain⟨S2,hS2⟩:∃n,n=(vm c 5 S1).2:=⟨_,rfl⟩
 rw[←hB]at b1;rw[←hS2]at b2
 have g5:∀S,(vm c 5 S).1<32:=fun S=>by
  unfold vm;split
  · simpa using vU c.text S.at_ 5
  · simp
 have hA32:A<32:=hA ▸ g5 S
 have hB32:B<32:=hB ▸ g5 S1
 have w1:IntKind.wrap .i64 ((A:Int)+257)=((A+257:Nat):Int):=u5 (n:=A+257) (by omega)
 have w2:IntKind.wrap .i64 ((B:Int)+1)=((B+1:Nat):Int):=u5 (n:=B+1) (by omega)
 have gs2:=b2.gs
 have he2:S2.e=0∨S2.e=700:=by rw[hS2];exact FV c 5 _ (by rw[hS1];exact FV c 5 S (.inl he))
 have fr2:=a3.trans b3
 have bad:(S2.e≠0∨286<A+257∨30<B+1)→∃h' ov' S',aQ AP.A 44 [.aC c.s 0] h=some (.bO [],h')∧St c S' h' ov'∧Fr c h ov h' ov'∧S'.e=700∧(700:Int)≠0:=by
  intro hb
  obtain⟨h3,f1,f2,f3⟩:=xp b2 700
  refine⟨h3,ov,vo 700 S2, ?_,f2,fr2.trans f3,by rcases he2 with q|q<;>simp [vo,q],by decide⟩
  refine tr (fn:=AP.f44) (e:=[]) (vs:=[]) rfl rfl rfl ?_ rfl
  by_cases c1:S2.e=0
  · have c1':=tV c1
    by_cases c2:286<A+257
    · have c2':(286:Int)<((A+257:Nat):Int):=by omega
      simp only[I]at *
      simp only[AP.f44,go_sem,a1,b1,w1,w2,gs2,c1',US c2',f1]
    · have c2':¬(286:Int)<((A+257:Nat):Int):=by omega
      have c3':(30:Int)<((B+1:Nat):Int):=by
       rcases hb with q|q|q
       · exact absurd c1 q
       · exact absurd q c2
       · omega
      simp only[I]at *
      simp only[AP.f44,go_sem,a1,b1,w1,w2,gs2,c1',UQ c2',US c3',f1]
  · have c1':=tW c1
    simp only[I]at *
    simp only[AP.f44,go_sem,a1,b1,w1,w2,gs2,c1',f1]
 unfold CV
 by_cases hp:S.at_+10≤8* c.text.size
 · have e1 : vm c 5 S = (vi c.text S.at_ 5, { S with at_ := S.at_ + 5 }) := by rw [vm, if_pos (by omega)]
   rw[e1]at hA hS1;dsimp only at hA hS1
   have e2:vm c 5 {S with at_:=S.at_+5}=(vi c.text (S.at_+5) 5,{S with at_:=S.at_+5+5}):=by rw[vm,if_pos (by show S.at_+5+5≤_;omega)]
   rw[hS1,e2]at hB hS2;dsimp only at hB hS2
   rw[if_pos hp]
   dsimp only
   rw[←hA,←hB]
   by_cases hbig:286<A+257∨30<B+1
   · rw[if_pos hbig];exact bad (.inr hbig)
   · rw [if_neg hbig]
     have c1':(S2.e !=0)=false:=tV (by rw[hS2];exact he)
     have c2':¬(286:Int)<((A+257:Nat):Int):=by omega
     have c3':¬(30:Int)<((B+1:Nat):Int):=by omega
     have w3:IntKind.wrap .i64 (((A+257:Nat):Int)+((B+1:Nat):Int))=((A+257+(B+1):Nat):Int):=by
      rw[show((A+257:Nat):Int)+((B+1:Nat):Int)=((A+257+(B+1):Nat):Int)by omega];exact u5 (by omega)
     obtain⟨h3,S3,av,acc,l1,l2,l3,l4,l5,l6⟩:=HC b2 (by rw[hS2];exact he) (A+257+(B+1)) (by omega) (by omega)
     have gs3:=l2.gs
     have hat2:S2.at_=S.at_+10:=by rw[hS2]
     rw[hat2]at l6
     cases hL:yj c.text (A+257+(B+1)) (S.at_+10)with
     | none =>
       rw[hL]at l6
       have c4:(S3.e !=0)=true:=tW (by rw[l6];decide)
       refine⟨h3,ov,S3, ?_,l2,fr2.trans l3,l6,by decide⟩
       refine tr (fn:=AP.f44) (e:=[(0,.aC c.s 0),(2,I (A+257:Nat)),(4,av),(37,.bool true)]) (vs:=[]) rfl rfl rfl ?_ rfl
       simp only[I]at *
       simp only[AP.f44,go_sem,a1,b1,w1,w2,gs2,c1',UQ c2',UQ c3',w3,l1,gs3,c4]
     | some q =>
       obtain⟨L,p2⟩:=q
       rw[hL]at l6
       obtain⟨l6,l7,l8⟩:=l6
       subst l7
       have hrng:=Dp hL
       dsimp only
       have he3:S3.e=0:=by rw[l6,hS2];exact he
       have c4:(S3.e !=0)=false:=tV he3
       obtain⟨id,hav,hgid⟩:∃id,av=.aD id 0 (A+257+(B+1)) 1∧h3.get id=some (ints acc):=by
        rcases l4 with ⟨_,q⟩|⟨id,q1,q2,_⟩
        · have:=Vi List.length q;rw[pt,l8,UT]at this;omega
        · exact⟨id,by rw[q1,pt,l8],q2⟩
       have hil:(ints acc).length=A+257+(B+1):=by rw[pt,l8]
       have s1:=DQ (h:=h3) (k:=A+257) hgid hil (uF _) (by omega)
       have s2:=FG (h:=h3) (k:=A+257) hgid hil (by omega)
       rw[show A+257+(B+1)-(A+257)=B+1 by omega]at s2
       rw[←hav]at s1 s2
       obtain⟨la,hla⟩:∃x,x=acc.take (A+257):=⟨_,rfl⟩
       obtain⟨lb,hlb⟩:∃x,x=acc.drop (A+257):=⟨_,rfl⟩
       have hlal:la.length=A+257:=by rw[hla,List.length_take];omega
       have hlbl:lb.length=B+1:=by rw[hlb,List.length_drop];omega
       have ra:Rd h3 (.aD id 0 (A+257) 1) (ints la):=by
        refine⟨?_,by intro s e;cases e⟩
        simp only[aR,if_true,hgid,uC]
        rw[if_pos (by rw[hil];omega),hla];simp [ints,List.map_take];omega
       have rb:Rd h3 (.aD id (A+257) (B+1) 1) (ints lb):=by
        refine⟨?_,by intro s e;cases e⟩
        simp only[aR,if_true,hgid,uC]
        rw[if_pos (by rw[hil];omega),hlb]
        have:(ints (acc.drop (A+257))).length=B+1:=by rw[pt,←hlb,hlbl]
        rw[this,ints,ints,←List.map_drop,Vk,uU (by rw[UW,←hlb,hlbl];omega)]
       rw[←hla,←hlb]
       have cka:=DW h3 _ la (by omega) ra
       have ckb:=DW h3 _ lb (by omega) rb
       have hra:xx la:=fun y hy=>hrng y (List.mem_of_mem_take (hla ▸ hy))
       have hrb:xx lb:=fun y hy=>hrng y (List.mem_of_mem_drop (hlb ▸ hy))
       have sgb:=Jk h3 _ lb (by omega) hrb rb
       have mka:=z5 h3 _ la (by omega) hra ra
       have mkb:=z5 h3 _ lb (by omega) hrb rb
       have hel:=zK (l:=la) (i:=256) (by omega)
       obtain⟨ad,p1,p2'⟩:=ra.elem hel
       have p3:=p2' h3 (fun _ _ q=>q)
       have p1':fU 1 (.aD id 0 (A+257) 1) (I 256)=some ad:=p1
       clear p1 p2'
       obtain⟨cb,hcb⟩:∃b:Bool,(b=true↔vR la≠0∨la.getD 256 0=0∨(vR lb≠0∧wJ lb=false)):=⟨decide _,decide_eq_true_iff⟩
       have step:∀k,aK (aQ AP.A) bz k [(0,.aC c.s 0),(2,I (A+257:Nat)),(4,av)] h3=aK (aQ AP.A) bz k [(0,.aC c.s 0),(2,I (A+257:Nat)),(4,av)] h3:=fun _=>rfl
       by_cases hbad:vR la≠0∨la.getD 256 0=0∨(vR lb≠0∧wJ lb=false)
       · rw [if_pos hbad]
         obtain⟨h4,f1,f2,f3⟩:=xp l2 700
         refine⟨h4,ov,vo 700 S3, ?_,f2,(fr2.trans l3).trans f3,by simp [vo,he3],by decide⟩
         refine tr (fn:=AP.f44) (e:=[]) (vs:=[]) rfl rfl rfl ?_ rfl
         by_cases d1:vR la=0
         · have d1':=tV d1
           by_cases d2:la.getD 256 0=0
           · have d2':=tU d2
             simp only[I]at *
             simp only[AP.f44,go_sem,a1,b1,w1,w2,gs2,c1',UQ c2',UQ c3',w3,l1,gs3,c4,UU,U6,s1,s2,cka,d1',p1',p3,d2',f1]
           · have d2':=tT d2
             obtain⟨d3,d4⟩:vR lb≠0∧wJ lb=false:=by
              rcases hbad with q|q|q
              · exact absurd d1 q
              · exact absurd q d2
              · exact q
             have d3':=tW d3
             rw[d4]at sgb
             simp only[I]at *
             simp only[AP.f44,go_sem,a1,b1,w1,w2,gs2,c1',UQ c2',UQ c3',w3,l1,gs3,c4,UU,U6,s1,s2,cka,d1',p1',p3,d2',ckb,d3',sgb,f1]
         · have d1':=tW d1
           simp only[I]at *
           simp only[AP.f44,go_sem,a1,b1,w1,w2,gs2,c1',UQ c2',UQ c3',w3,l1,gs3,c4,UU,U6,s1,s2,cka,d1',f1]
       · rw [if_neg hbad]
         have d1:vR la=0:=Decidable.byContradiction fun q=>hbad (.inl q)
         have d2:la.getD 256 0≠0:=fun q=>hbad (.inr (.inl q))
         have d1':=tV d1
         have d2':=tT d2
         obtain⟨h4,ov4,S4,q1,q2,q3,q4⟩:=Gc la lb (by omega) (by omega) l2 he3
         refine⟨h4,ov4,S4, ?_,q2,(fr2.trans l3).trans q3, ?_⟩
         · refine vZ (fn:=AP.f44) (e:=[]) (vs:=[]) rfl rfl rfl ?_ rfl
           by_cases d3:vR lb=0
           · have d3':=tV d3
             simp only[I]at *
             simp only[AP.f44,go_sem,a1,b1,w1,w2,gs2,c1',UQ c2',UQ c3',w3,l1,gs3,c4,UU,U6,s1,s2,cka,d1',p1',p3,d2',ckb,d3',mka,mkb,q1]
           · have d3':=tW d3
             have d4:wJ lb=true:=by
              cases hs:wJ lb with
              |true=>rfl
              |false=>exact absurd (.inr (.inr ⟨d3,hs⟩)) hbad
             rw[d4]at sgb
             simp only[I]at *
             simp only[AP.f44,go_sem,a1,b1,w1,w2,gs2,c1',UQ c2',UQ c3',w3,l1,gs3,c4,UU,U6,s1,s2,cka,d1',p1',p3,d2',ckb,d3',sgb,mka,mkb,q1]
         · have:S3.at_=p2:=by rw[l6]
           have ho:S3.out=S.out:=by rw[l6,hS2]
           rw[this,ho]at q4;exact q4
 · rw[if_neg hp]
   refine bad (.inl ?_)
   rw[hS2,hS1]
   unfold vm
   by_cases q1:S.at_+5≤8* c.text.size
   · simp only[if_pos q1];rw[if_neg (by omega)];simp [vo,he]
   · simp only[if_neg q1,vo,he,if_true];split<;>simp
def yy (t : ByteArray) (most : Int) (p : Nat) (out : List Nat) : Except Int (Bool × Nat × List Nat) :=
 if p+3≤8* t.size then
  let r:Rs:=if vi t (p+1) 2=0 then yr t most (p+3) out
   else if vi t (p+1) 2=1 then xH t most wB (List.replicate 30 5) (8* t.size+1) (p+3) out
   else if vi t (p+1) 2=2 then CV t most (p+3) out
   else .error 700
  match r with
  | .ok q=>.ok (vi t p 1==1,q.1,q.2)
  | .error k=>.error k
 else .error 700
def Qk (r:Except Int (Bool×Nat×List Nat)) (b:Bool) (S:SS):Prop:=match r with
 | .ok q=>b=q.1∧S=⟨q.2.1,q.2.2,0⟩
 | .error k=>S.e=k∧k≠0
theorem yA:wB.length=288:=by simp only[wB,uZ,Vc]
theorem FP:xx wB:=by
 intro y hy
 simp only[wB,List.mem_append]at hy
 rcases hy with hy|hy|hy|hy<;>(obtain⟨_,rfl⟩:=List.mem_replicate.1 hy;omega)
theorem Hr:xx (List.replicate 30 5):=by
 intro y hy
 obtain⟨_,rfl⟩:=List.mem_replicate.1 hy;omega
theorem JO {c : SC} {S : SS} {h : H} {ov : AV} (st : St c S h ov) (he : S.e = 0) :
 ∃h' ov' S' b,aQ AP.A 15 [.aC c.s 0] h=some (.bool b,h')∧St c S' h' ov'∧Fr c h ov h' ov'∧Qk (yy c.text c.most S.at_ S.out) b S':=by
 obtain⟨h1,a1,a2,a3⟩:=yP st 1 1 rfl (by omega)
 obtain⟨h2,b1,b2,b3⟩:=yP a2 2 2 rfl (by omega)
 obtain⟨A,hA⟩:∃n,n=(vm c 1 S).1:=⟨_,rfl⟩
 obtain⟨S1,hS1⟩:∃n,n=(vm c 1 S).2:=⟨_,rfl⟩
 rw[←hA]at a1;rw[←hS1]at a2 b1 b2
 obtain⟨B,hB⟩:∃n,n=(vm c 2 S1).1:=⟨_,rfl⟩
 obtain⟨S2,hS2⟩:∃n,n=(vm c 2 S1).2:=⟨_,rfl⟩
 rw[←hB]at b1;rw[←hS2]at b2
 have gs2:=b2.gs
 have fr2:=a3.trans b3
 obtain⟨lb,hlb⟩:∃b:Bool,b=((A:Int)==1):=⟨_,rfl⟩
 unfold yy
 by_cases hp:S.at_+3≤8* c.text.size
 · rw [if_pos hp]
   have e1:vm c 1 S=(vi c.text S.at_ 1,{S with at_:=S.at_+1}):=by rw[vm,if_pos (by omega)]
   rw[e1]at hA hS1;dsimp only at hA hS1
   have e2:vm c 2 {S with at_:=S.at_+1}=(vi c.text (S.at_+1) 2,{S with at_:=S.at_+1+2}):=by rw[vm,if_pos (by show S.at_+1+2≤_;omega)]
   rw[hS1,e2]at hB hS2;dsimp only at hB hS2
   have he2:S2.e=0:=by rw[hS2];exact he
   have hat:S2.at_=S.at_+3:=by rw[hS2]
   have hout:S2.out=S.out:=by rw[hS2]
   dsimp only
   rw[←hA,←hB]
   have hlb2:lb=(A==1):=by
    rw[hlb];by_cases q:A=1
    · subst q;rfl
    · rw[tT (by omega)];symm;simp [q]
   have wrap:∀(r:Rs) (h':H) (ov':AV) (S':SS),aQ AP.A 15 [.aC c.s 0] h=some (.bool lb,h')→St c S' h' ov'→Fr c h2 ov h' ov'→Fin r S'→∃h' ov' S' b,aQ AP.A 15 [.aC c.s 0] h=some (.bool b,h')∧St c S' h' ov'∧Fr c h ov h' ov'∧Qk (match r with| .ok q=>.ok (A==1,q.1,q.2)| .error k=>.error k) b S':=by
    intro r h' ov' S' q1 q2 q3 q4
    refine⟨h',ov',S',lb,q1,q2,fr2.trans q3, ?_⟩
    cases r with
    |ok q=>exact⟨hlb2,q4⟩
    |error k=>exact q4
   have c0:(S2.e==0)=true:=tU he2
   by_cases d0:B=0
   · rw[if_pos d0]
     obtain⟨h',ov',S',q1,q2,q3,q4⟩:=Ju b2 he2
     rw[hat,hout]at q4
     refine wrap _ h' ov' S' ?_ q2 q3 q4
     have d0':((B:Int)==0)=true:=tU (by omega)
     refine tr (fn:=AP.f15) (e:=[(2,.bool lb)]) rfl rfl rfl ?_ rfl
     simp only[I]at *
     simp only[AP.f15,go_sem,a1,b1,←hlb,d0',gs2,c0,q1]
   · rw [if_neg d0]
     have d0':((B:Int)==0)=false:=tT (by omega)
     by_cases d1:B=1
     · rw[if_pos d1]
       have d1':((B:Int)==1)=true:=tU (by omega)
       have f1:=J2 h2
       have m1:=z5 h2 (wk wB) wB (by rw[yA];omega) FP (yg _ _)
       have al:=b2.alloc [I 5]
       have r1:=yS (h2.alloc [I 5]) (.aD h2.next 0 1 1) 5 30 (by omega) (zP _ _)
       have r1':aQ AP.A 43 [.aD h2.next 0 1 1,I 30] (h2.alloc [I 5])=some (wk (List.replicate 30 5),h2.alloc [I 5]):=by
        rw[wk,Vc];exact r1
       have m2:=z5 (h2.alloc [I 5]) (wk (List.replicate 30 5)) (List.replicate 30 5) (by rw[Vc];omega) Hr (yg _ _)
       obtain⟨h',ov',S',q1,q2,q3,q4⟩:=Gc wB (List.replicate 30 5) (by rw[yA];omega) (by rw[Vc];omega) al.1 he2
       rw[hat,hout]at q4
       refine wrap _ h' ov' S' ?_ q2 (al.2.trans q3) q4
       refine tr (fn:=AP.f15) (e:=[(2,.bool lb)]) rfl rfl rfl ?_ rfl
       clear r1
       generalize vJ wB=bf at *
       generalize vJ (List.replicate 30 5)=bd at *
       generalize wk wB=vf at *
       generalize wk (List.replicate 30 5)=vd at *
       simp only[I]at *
       simp only[AP.f15,go_sem,a1,b1,←hlb,d0',d1',f1,m1,Qs,I,r1',m2,q1]
     · rw[if_neg d1]
       have d1':((B:Int)==1)=false:=tT (by omega)
       by_cases d2:B=2
       · rw[if_pos d2]
         have d2':((B:Int)==2)=true:=tU (by omega)
         obtain⟨h',ov',S',q1,q2,q3,q4⟩:=Hq b2 he2
         rw[hat,hout]at q4
         refine wrap _ h' ov' S' ?_ q2 q3 q4
         refine tr (fn:=AP.f15) (e:=[(2,.bool lb)]) rfl rfl rfl ?_ rfl
         simp only[I]at *
         simp only[AP.f15,go_sem,a1,b1,←hlb,d0',d1',d2',q1]
       · rw[if_neg d2]
         have d2':((B:Int)==2)=false:=tT (by omega)
         obtain⟨h',q1,q2,q3⟩:=xp b2 700
         refine wrap (.error 700) h' ov _ ?_ q2 q3 ⟨by simp [vo,he2],by decide⟩
         refine tr (fn:=AP.f15) (e:=[(2,.bool lb)]) rfl rfl rfl ?_ rfl
         simp only[I]at *
         simp only[AP.f15,go_sem,a1,b1,←hlb,d0',d1',d2',q1]
 · rw [if_neg hp]
   have hB0:B=0∧S2.e=700:=by
    by_cases q1:S.at_+1≤8* c.text.size
    · have e1:vm c 1 S=(vi c.text S.at_ 1,{S with at_:=S.at_+1}):=by rw[vm,if_pos q1]
      rw[e1]at hS1;dsimp only at hS1
      have e2:vm c 2 S1=(0,{S1 with e:=700}):=by rw[vm,if_neg (by rw[hS1];show¬S.at_+1+2≤_;omega),vo,if_pos (by rw[hS1];exact he)]
      rw[e2]at hB hS2
      exact⟨hB,by rw[hS2]⟩
    · have e1:vm c 1 S=(0,{S with e:=700}):=by rw[vm,if_neg q1,vo,if_pos he]
      rw[e1]at hS1;dsimp only at hS1
      have e2:vm c 2 S1=(0,S1):=by rw[vm,if_neg (by rw[hS1];show¬S.at_+2≤_;omega),vo,if_neg (by rw[hS1];simp)]
      rw[e2]at hB hS2
      exact⟨hB,by rw[hS2,hS1]⟩
   have d0':((B:Int)==0)=true:=tU (by omega)
   have c0:(S2.e==0)=false:=tT (by rw[hB0.2];decide)
   refine⟨h2,ov,S2,lb, ?_,b2,fr2,hB0.2,by decide⟩
   refine tr (fn:=AP.f15) (e:=[(2,.bool lb)]) rfl rfl rfl ?_ rfl
   simp only[I]at *
   simp only[AP.f15,go_sem,a1,b1,←hlb,d0',gs2,c0]
def xq (t : ByteArray) (most : Int) : Nat → Nat → List Nat → Rs
 |0,_,_=>.error 700
 | f + 1, p, out => match yy t most p out with
   | .error k=>.error k
   | .ok (last,p2,o)=>if last then .ok (p2,o)else xq t most f p2 o
theorem EX {c:SC} {S:SS} {h:H} {ov:AV} (st:St c S h ov) (b:Bool) (hs:b=true∨S.e≠0):
 ∃e',Lp AP.A [7,8] AP.f7L0 [(7,.aC c.s 0),(8,.bool b)] h=some (.exit 0,e',h)∧look e' 7=.aC c.s 0:=by
 have gs:=st.gs
 refine⟨[(7,.aC c.s 0),(28,.bool false)],sY ?_,rfl⟩
 cases b with
 | true =>
   simp only[I]at *
   simp only[AP.f7L0,go_sem]
 | false =>
   have c2:(S.e==0)=false:=tT (by rcases hs with q|q;cases q;exact q)
   simp only[I]at *
   simp only[AP.f7L0,go_sem,gs,c2]
theorem Bg {t:ByteArray} {most:Int}:∀{n p:Nat} {out:List Nat} {p2:Nat} {o:List Nat},w8 t most n p out=.ok (p2,o)→p≤p2
 |0,p,out,p2,o,h=>by rw[w8]at h;cases h;exact uF _
 | n + 1, p, out, p2, o, h => by
   rw[w8]at h
   split at h
   · split at h
     · cases h
     · have:=Bg h;omega
   · cases h
theorem yL {t : ByteArray} {most : Int} {ll dl : List Int} : ∀ {k p : Nat} {out : List Nat} {p2 : Nat} {o : List Nat}, xH t most ll dl k p out = .ok (p2, o) → p < p2
 |0,_,_,_,_,h=>by cases h
 | k + 1, p, out, p2, o, h => by
   rw[xH]at h
   split at h
   · cases h
   · rename_i y p1 hs
     have sb:=xK hs
     split at h
     · split at h
       · cases h
       · have:=yL h;omega
     · split at h
       · cases h;omega
       · split at h
         · rename_i p3 o3 hc
           have:=EJ hc
           have:=yL h;omega
         · cases h
theorem Bs {t : ByteArray} {cl : List Int} {many : Nat} : ∀ {f : Nat} {acc : List Int} {p : Nat} {L : List Int} {p2 : Nat}, vT t cl many f acc p = some (L, p2) → p ≤ p2
 |0,_,_,_,_,h=>by cases h
 | f + 1, acc, p, L, p2, h => by
   rw[vT]at h
   split at h
   · split at h
     · cases h
     · rename_i y p1 hs
       have sb:=xK hs
       split at h
       · cases h
       · rename_i n times q hag
         have:=Bs h
         have:p1≤q:=by
          unfold wh at hag
          repeat' split at hag
          all_goals first
           |(cases hag;done)
           |(have:=Vi (fun o=>o.map (·.2.2)) hag;simp only[UU,uy]at this;omega)
         omega
   · split at h
     · cases h
     · have:=Vi (fun o=>o.map (·.2)) h
       simp only[UU,uy]at this;omega
theorem C8 {t : ByteArray} {most : Int} {p : Nat} {out : List Nat} {q : Bool × Nat × List Nat} (h : yy t most p out = .ok q) : p < q.2.1 := by
 unfold yy at h
 split at h
 · dsimp only at h
   have key:∀{r:Rs},(match r with| .ok q=>Except.ok (vi t p 1==1,q.1,q.2)| .error k=>.error k)=Except.ok (ε:=Int) q→∃z,r=.ok z∧z.1=q.2.1:=by
    intro r h
    cases r with
    |ok z=>cases h;exact⟨z,rfl,rfl⟩
    |error k=>cases h
   obtain⟨z,h1,h2⟩:=key h
   rw[←h2]
   split at h1
   · unfold yr at h1
     dsimp only at h1
     split at h1
     · split at h1
       · have:=Bg h1;omega
       · cases h1
     · cases h1
   · split at h1
     · have:=yL h1;omega
     · split at h1
       · unfold CV at h1
         split at h1
         · dsimp only at h1
           split at h1
           · cases h1
           · split at h1
             · cases h1
             · rename_i L p2 hl
               split at h1
               · cases h1
               · have:=yL h1
                 have:p+3≤p2:=by
                  unfold yj at hl
                  split at hl
                  · dsimp only at hl
                    split at hl
                    · split at hl
                      · have:=Bs hl;omega
                      · cases hl
                    · cases hl
                  · cases hl
                 omega
         · cases h1
       · cases h1
 · cases h
theorem EW {c : SC} : ∀ (f : Nat) (S : SS) (h : H) (ov : AV), St c S h ov → S.e = 0 → 8 * c.text.size < S.at_ + f →
 ∃e' h' ov' S',Lp AP.A [7,8] AP.f7L0 [(7,.aC c.s 0),(8,.bool false)] h=some (.exit 0,e',h')∧look e' 7=.aC c.s 0∧St c S' h' ov'∧Fr c h ov h' ov'∧Fin (xq c.text c.most f S.at_ S.out) S'
 |0,S,h,ov,st,he,hk=>by have:=st.wP;omega
 | f + 1, S, h, ov, st, he, hk => by
   have gs:=st.gs
   obtain⟨h1,ov1,S1,b,q1,q2,q3,q4⟩:=JO st he
   have step:aK (aQ AP.A) bz AP.f7L0 (ax [(7,.aC c.s 0),(8,.bool false)] [7,8]) h=some (.normal,[(7,.aC c.s 0),(8,.bool b)],h1):=by
    simp only[I]at *
    simp only[AP.f7L0,go_sem,gs,he,q1]
   rw[xq]
   cases hb:yy c.text c.most S.at_ S.out with
   | error k =>
     rw[hb]at q4
     obtain⟨e',r1,r2⟩:=EX q2 b (.inr (by rw[q4.1];exact q4.2))
     exact⟨e',h1,ov1,S1,sZ step r1,r2,q2,q3,q4⟩
   | ok z =>
     obtain⟨last,p2,o⟩:=z
     rw[hb]at q4
     obtain⟨q5,q6⟩:=q4
     dsimp only at q5 q6 ⊢
     subst q5
     cases b with
     | true =>
       obtain⟨e',r1,r2⟩:=EX q2 true (.inl rfl)
       exact⟨e',h1,ov1,S1,sZ step r1,r2,q2,q3,q6⟩
     | false =>
       have hge:=C8 hb
       dsimp only at hge
       subst q6
       obtain⟨e',h',ov',S',r1,r2,r3,r4,r5⟩:=EW f _ h1 ov1 q2 rfl (by dsimp only;omega)
       exact⟨e',h',ov',S',sZ step r1,r2,r3,q3.trans r4,r5⟩
def bytesOf (l:List Nat):ByteArray:=⟨(l.map UInt8.ofNat).toArray⟩
def xJ (t:ByteArray) (most:Int):Except Int (List Nat×Nat):=
 if most<0∨8192<most then .error 700 else
 match xq t most (8* t.size+1) 0 []with
 | .ok q=>.ok (q.2,(q.1+7)/8)
 | .error k=>.error k
def Hy (r:Except Int (List Nat×Nat)):AV:=match r with
 | .ok q=>.bO [.str (bytesOf q.1),I q.2,I 0]
 | .error k=>.bO [.str ⟨#[]⟩,I 0,I k]
theorem DR:∀l:List Nat,kG (yH l)=some (l.map UInt8.ofNat)
 |[]=>rfl
 | x :: l => by
   have:yH (x::l)=.int .u8 x::yH l:=rfl
   rw[this,kG,DR l];simp
theorem F5 {h:H} {v:AV} {l:List Nat} (o:mX h v (yH l)):tE h v (aR h 1 v)=some (.str (bytesOf l),h):=by
 rcases o with ⟨rfl,q⟩|⟨id,rfl,q,_⟩
 · have:l=[]:=by cases l with|nil=>rfl|cons _ _=>cases q
   subst this;rfl
 · simp only[aR,if_true,q,uC]
   rw[if_pos (by omega)]
   have:((yH l).drop 0).take ((yH l).length* 1)=yH l:=by rw[U1,Vk,List.take_length]
   rw[this]
   simp only[tE,uC,DR];rfl
theorem Hz (h : H) (hf : h.floor ≤ h.next) (t : ByteArray) (most : Int) (hs : t.size < 1125899906842624) : aQ AP.A 7 [.str t, I most] h = some (Hy (xJ t most), h) := by
 unfold xJ
 by_cases c1:most<0
 · rw[if_pos (.inl c1)]
   refine tM (fn:=AP.f7) (h2:=h.dX) (e:=[(4,.str ⟨#[]⟩),(5,I 0),(6,I 700)]) rfl rfl rfl ?_ rfl rfl
   simp only[I]at *
   simp only[AP.f7,go_sem,US c1]
 by_cases c2:8192<most
 · rw[if_pos (.inr c2)]
   refine tM (fn:=AP.f7) (h2:=h.dX) (e:=[(4,.str ⟨#[]⟩),(5,I 0),(6,I 700)]) rfl rfl rfl ?_ rfl rfl
   simp only[I]at *
   simp only[AP.f7,go_sem,UQ c1,US c2]
 rw[if_neg (by omega)]
 obtain⟨h1,hh1⟩:∃g,g=h.dX.alloc [.str t,I 0]:=⟨_,rfl⟩
 obtain⟨h2,hh2⟩:∃g,g=h1.alloc [.aC h.next 0,.aO,I most,I 0]:=⟨_,rfl⟩
 have of1:=Td h.dX t
 rw[←hh1]at of1
 have n1:h1.next=h.next+1:=by rw[hh1];simp
 have st:St ⟨h.next+1,h.next,t,most⟩ ⟨0,[],0⟩ h2 .aO:=by
  refine⟨?_, ?_,.inl ⟨rfl,rfl⟩,by simp, ?_, ?_,by simp [AV.id?],by simp [AV.id?], ?_,hs,by simp,by simp;omega,by show most≤900000;omega⟩
  · rw[hh2,H.aV,if_pos n1.symm]
  · rw[hh2,H.aV,if_neg (by show h.next≠h1.next;omega),hh1,H.aV,if_pos (show h.next=h.dX.next from rfl)];rfl
  · rw[hh2,hh1];simp
  · rw[hh2,hh1];simp
  · rw[hh2,hh1];simp;omega
 obtain⟨e',h3,ov,S,q1,q2,q3,q4,q5⟩:=EW (8* t.size+1) ⟨0,[],0⟩ h2 .aO st rfl (by show 8* t.size<0+(8* t.size+1);omega)
 have gs:=q3.gs
 have bx:∀e:Env,look e 18=.agg [.aC h.next 0,.aO,.int .i64 most,.int .i64 0]→aX e (.box 4 (.t 18))=some ([.aC h.next 0,.aO,.int .i64 most,.int .i64 0],fun i=>.aC i 0):=by
  intro e q;simp only[aX,rU,q];rfl
 have fl:dY [.cH,.aO,.int .i64 0,.int .i64 0] [(0,1,.aC h.next 0),(2,1,.int .i64 most)]=some [.aC h.next 0,.aO,.int .i64 most,.int .i64 0]:=rfl
 have hn:h.dX.next=h.next:=rfl
 dsimp only at q5
 cases hi:xq t most (8* t.size+1) 0 []with
 | error k =>
   rw[hi]at q5
   have c3:(S.e !=0)=true:=tW (by rw[q5.1];exact q5.2)
   have hk:S.e=k:=q5.1
   refine tM (fn:=AP.f7) (h2:=h3) (e:=[(4,.str ⟨#[]⟩),(5,I 0),(6,I k)]) rfl rfl rfl ?_ rfl rfl
   simp only[I]at *
   simp only[AP.f7,go_sem,UQ c1,UQ c2,of1,hn,U5,Vf,fl]
   rw[bx _ rfl]
   rw[hk]at gs c3
   simp only[go_sem,←hh2,n1,rR,q1,q2,gs,c3]
 | ok z =>
   obtain⟨p,o⟩:=z
   rw[hi]at q5
   simp only[Fin]at q5
   have c3:(S.e !=0)=false:=tV (by rw[q5])
   obtain⟨h4,a1,a2,a3⟩:=q3.align
   have gs4:=a2.gs
   have gr4:=a2.gr
   have at4:=SX h4 h.next t _ gr4
   have hb:=F5 a2.own
   subst q5
   dsimp only at gs4 gr4 at4 hb a2 gs c3
   have hle:=a2.wP
   dsimp only at hle
   have qd:bp .quo (.int .i64 (((p+7)/8* 8:Nat):Int)) (.int .i64 8)=some (.int .i64 (((p+7)/8:Nat):Int)):=by
    rw[rH _ _ _ (by omega),show(8:Int)=((8:Nat):Int)from rfl,xn,Nat.mul_div_cancel _ (by omega),u5 (by omega)]
   refine tM (fn:=AP.f7) (h2:=h4) (e:=[(4,.str (bytesOf o)),(5,I ((p+7)/8:Nat)),(6,I 0)]) rfl rfl rfl ?_ rfl rfl
   generalize (p+7)/8* 8=P8 at *
   generalize (p+7)/8=P at *
   simp only[I]at *
   simp only[AP.f7,go_sem,UQ c1,UQ c2,of1,hn,U5,Vf,fl]
   rw[bx _ rfl]
   simp only[go_sem,←hh2,n1,rR,q1,q2,gs,c3,a1]
   rw[DO (e':=[(6,.int .i64 0),(5,.int .i64 P),(4,.str (bytesOf o)),(55,.int .i64 P),(54,.int .i64 P8),(53,.aC h.next 0),(52,.aC (h.next+1) 0),(51,.aC (h.next+1) 0),(50,.aC (h.next+1) 0),(49,.str (bytesOf o)),(48,ov),(47,.aC (h.next+1) 1),(46,.aC (h.next+1) 0),(45,.aC (h.next+1) 0),(7,.aC (h.next+1) 0)]) (h':=h4) (gs:=[h4,h4])]
   · simp only[go_sem]
   · simp only[yR,A8,A3,Bb,Ba,bX.aN,go_sem,gs4,hb,at4,qd]
   · refine yU (fun k hk=> ?_) (yU (fun k hk=> ?_) rfl)
     · obtain rfl:k=1:=by simpa using hk
       refine yT (o:=⟨some 48,.load false 1 (.t 47),none⟩) (g:=h4) (h':=h4) (d:=48) (u:=ov) rfl rfl rfl rfl ?_ ?_
       · simp only[ai,go_sem,gs4]
       · simp only[go_sem]
         rcases a2.own with ⟨rfl,_⟩|⟨id,rfl,_⟩
         · rfl
         · exact Ag _ _ _ _
     · obtain rfl:k=1:=by simpa using hk
       refine yT (o:=⟨some 49,.kG (.t 48),none⟩) (g:=h4) (h':=h4) (d:=49) (u:=.str (bytesOf o)) rfl rfl rfl rfl ?_ ?_
       · simp only[ai,go_sem,hb]
       · simp only[go_sem,BC]
theorem Bz (a:ByteArray):a.toList=a.data.toList:=by
 have key:∀(n i:Nat) (r:List UInt8),a.size-i=n→ByteArray.toList.loop a i r=r.reverse++a.data.toList.drop i:=by
  intro n
  induction n with
  | zero =>
    intro i r h
    unfold ByteArray.toList.loop
    rw[if_neg (by omega),List.drop_eq_nil_of_le (by show a.data.toList.length≤i;have:a.data.toList.length=a.size:=rfl;omega)];simp
  | succ n ih =>
    intro i r h
    unfold ByteArray.toList.loop
    have hi:i<a.data.toList.length:=by show i<a.size;omega
    rw[if_pos (by omega),ih (i+1) _ (by omega),List.drop_eq_getElem_cons hi]
    have hi':i<a.data.size:=hi
    simp [ByteArray.get!,getElem!_pos a.data i hi']
 unfold ByteArray.toList
 rw[key a.size 0 [] (by omega)];simp
theorem yt (a b:ByteArray):bp .eql (.str a) (.str b)=some (.bool (a.data.toList==b.data.toList)):=by
 simp only[bp,jQ,Bz]
theorem AK (a b:ByteArray):bp .neq (.str a) (.str b)=some (.bool (!(a.data.toList==b.data.toList))):=by
 simp only[bp,jQ,Bz]
theorem IV (h:H) (n:Int):aQ AP.A 9 [I n] h=some (I n,h):=by
 refine tM (fn:=AP.f9) (h2:=h.dX) (e:=[(2,I n)]) rfl rfl rfl ?_ rfl rfl
 simp only[I]at *
 simp only[AP.f9,go_sem]
def Ks (out:List Nat) (i:Nat) (b:Nat):List Nat:=
 let o:=if i%8=0 then out++[0]else out
 o.set (i/8) (o.getD (i/8) 0|||b* 2^(i%8))
def IZ:List Nat→Nat→List Nat→List Nat
 |[],_,out=>out
 |b::r,i,out=>IZ r (i+1) (Ks out i b)
theorem mX.set {h:H} {v:AV} {cs:List AV} (o:mX h v cs) {i:Nat} (hi:i<cs.length) (x:AV):∃id,v=.aD id 0 cs.length 1∧h.get id=some cs∧h.floor≤id∧mX (h.set id (cs.set i x)) v (cs.set i x):=by
 rcases o with ⟨rfl,rfl⟩|⟨id,rfl,h1,h2,h3⟩
 · simp at hi
 · exact⟨id,rfl,h1,h2,.inr ⟨id,by simp,by rw[H.dE,if_pos rfl,h1];rfl,by simpa using h2,by intro e;apply h3;have:=Vi List.length e;simpa using this⟩⟩
theorem Es {x y:ByteArray} (h:x.size+y.size≤9223372036854775807):bp .add (.str x) (.str y)=some (.str (x++y)):=by
 simp only[bp,jQ,if_pos h]
structure Uj (a t:ByteArray):Prop where
 sz:a.size≤t.size
 bit:∀i,i<8* a.size→wz a i=wz t i
section
variable {a t:ByteArray} (h:Uj a t)
include h
end
variable {t:ByteArray} {most most':Int}
theorem JL {s:ByteArray} {n:Nat} (hn:n≤s.size):nq (.str s) none (some (I n))=some (.str (s.extract 0 n)):=by
 have:kb (I n) s.size=some n:=Fl hn
 simp [nq,aA,this]
theorem vS (l:List Nat):(bytesOf l).size=l.length:=by
 show(l.map UInt8.ofNat).toArray.size=_
 simp
theorem Hv (h:H) (r:Nat) (s:ByteArray) (R:List AV) (p x i n:Nat) (hg:h.get r=some (.str s::I p::R)) (hf:h.floor≤r) (hp:p<8* s.size) (hs:s.size<1125899906842624) (hx:x<2^i) (hi:i<n) (hn:n≤16):
 aK (aQ AP.A) bz AP.f46L0 [(0,.aC r 0),(1,I n),(6,I x),(7,I i)] h=some (.normal,[(0,.aC r 0),(1,I n),(6,I (x+wz s p* 2^i:Nat)),(7,I (i+1:Nat))],h.set r (.str s::I (p+1:Nat)::R)):=by
 obtain⟨b,hb⟩:=Gb (s:=s) (i:=p/8) (by omega)
 have hb8:b.toNat<256:=b.toNat_lt
 have hbit:wz s p=b.toNat/2^(p%8)%2:=by simp [wz,hb]
 have t1:bp .quo (.int .i64 (p:Int)) (.int .i64 8)=some (.int .i64 ((p/8:Nat):Int)):=by
  rw[rH _ _ _ (by omega),show(8:Int)=((8:Nat):Int)from rfl,xn,u5 (by omega)]
 have t2:bp .rem (.int .i64 (p:Int)) (.int .i64 8)=some (.int .i64 ((p%8:Nat):Int)):=by
  rw[rI _ _ _ (by omega),show(8:Int)=((8:Nat):Int)from rfl,yV]
 have a1:lT (.str s) (I (p/8:Nat))=some (.int .u8 b.toNat):=by
  simp only[lT,ki (show p/8<s.size by omega),uC,hb]
 have s1:oV .shr .u8 (b.toNat:Int) ((p%8:Nat):Int)=some (.int .u8 ((b.toNat/2^(p%8):Nat):Int)):=Jj (by omega)
 have hlt:b.toNat/2^(p%8)<256:=Nat.lt_of_le_of_lt (Nat.div_le_self _ _) hb8
 have n1:bits .and .u8 ((b.toNat/2^(p%8):Nat):Int) 1=((wz s p:Nat):Int):=by
  have:=C7 (b:=1) hlt (by omega)
  rw[Nat.and_one_is_mod]at this
  rw[hbit];exact this
 have hbl:=BS s p
 have w2:IntKind.wrap .i64 ((wz s p:Nat):Int)=((wz s p:Nat):Int):=u5 (by omega)
 have hpow:(2:Nat)^i≤2^16:=U4 (by omega) (by omega)
 have hmul:wz s p* 2^i≤2^i:=by
  have:=uI (2^i) hbl;simpa using this
 have s2:oV .shl .i64 ((wz s p:Nat):Int) (i:Int)=some (.int .i64 ((wz s p* 2^i:Nat):Int)):=yq (by omega) (by omega)
 have o1:bits .or .i64 (x:Int) ((wz s p* 2^i:Nat):Int)=((x+wz s p* 2^i:Nat):Int):=by
  rw[BD (by omega) (by omega),IX hx]
 have w3:IntKind.wrap .i64 ((p:Int)+1)=((p+1:Nat):Int):=u5 (n:=p+1) (by omega)
 have w4:IntKind.wrap .i64 ((i:Int)+1)=((i+1:Nat):Int):=u5 (n:=i+1) (by omega)
 have c1:(i:Int)<n:=by omega
 have hst:tO h r 1 1 [I (p+1:Nat)] (some (.str s::I p::R))=some (h.set r (.str s::I (p+1:Nat)::R)):=uh hf (by simp) rfl
 generalize hB:wz s p=B at *
 generalize hD:b.toNat/2^(p%8)=D at *
 generalize hE:p/8=E at *
 generalize hF:p%8=F at *
 generalize hO:x+B* 2^i=O at *
 generalize hM:B* 2^i=W at *
 simp only[I]at *
 simp only[AP.f46L0,go_sem,US c1,hg,t1,a1,t2,s1,n1,w2,s2,o1,w3,hst,w4]
theorem Dj (r:Nat) (s:ByteArray) (R:List AV) (p n:Nat) (hs:s.size<1125899906842624) (hp:p+n≤8* s.size) (hn:n≤16):∀(k i:Nat) (h:H),i+k=n→h.get r=some (.str s::I (p+i:Nat)::R)→h.floor≤r→
 ∃e',Lp AP.A [0,1,6,7] AP.f46L0 [(0,.aC r 0),(1,I n),(6,I (vi s p i:Nat)),(7,I i)] h=some (.exit 0,e',h.set r (.str s::I (p+n:Nat)::R))∧look e' 6=I (vi s p n:Nat)
 | 0, i, h, hk, hg, hf => by
   obtain rfl:i=n:=by omega
   refine⟨[(0,.aC r 0),(1,I i),(6,I (vi s p i:Nat)),(7,I i),(29,.bool false)],sY ?_,rfl⟩
   rw[H.jC hg]
   have c1:¬(i:Int)<i:=by omega
   simp only[I]at *
   simp only[AP.f46L0,go_sem,UQ c1]
 | k + 1, i, h, hk, hg, hf => by
   have st:=Hv h r s R (p+i) (vi s p i) i n hg hf (by omega) hs (vU s p i) (by omega) hn
   obtain⟨e',k1,k2⟩:=Dj r s R p n hs hp hn k (i+1) (h.set r (.str s::I (p+i+1:Nat)::R)) (by omega) (by rw[H.dE,if_pos rfl,hg];rfl) (by simpa using hf)
   rw[H.set_set]at k1
   exact⟨e',sZ st k1,k2⟩
theorem J7 (h:H) (r:Nat) (s:ByteArray) (R:List AV) (p n:Nat) (hg:h.get r=some (.str s::I p::R)) (hf:h.floor≤r) (hs:s.size<1125899906842624) (hp:p+n≤8* s.size) (hn:n≤16):
 aQ AP.A 46 [.aC r 0,I n] h=some (.bO [I (vi s p n:Nat),I 0],h.set r (.str s::I (p+n:Nat)::R)):=by
 obtain⟨e',k1,k2⟩:=Dj r s R p n hs hp hn n 0 h (by omega) hg hf
 have k1':Lp AP.A [0,1,6,7] AP.f46L0 [(0,.aC r 0),(1,I n),(6,I 0),(7,I 0)] h=some (.exit 0,e',h.set r (.str s::I (p+n:Nat)::R)):=k1
 clear k1
 have c0:¬(n:Int)<0:=by omega
 have c1:¬(16:Int)<n:=by omega
 have w1:IntKind.wrap .i64 (8* (s.size:Int))=((8* s.size:Nat):Int):=u5 (n:=8* s.size) (by omega)
 have w2:IntKind.wrap .i64 (((8* s.size:Nat):Int)-p)=((8* s.size-p:Nat):Int):=by
  rw[←Int.ofNat_sub (by omega)];exact u5 (by omega)
 have c2:¬((8* s.size-p:Nat):Int)<n:=by omega
 refine tr (fn:=AP.f46) (e:=[(4,I (vi s p n:Nat)),(5,I 0)]) rfl rfl rfl ?_ rfl
 generalize hM:8* s.size-p=W at *
 generalize hM2:8* s.size=W2 at *
 simp only[I]at *
 simp only[AP.f46,go_sem,UQ c0,UQ c1,hg,w1,w2,UQ c2,rR,k1',k2]
theorem Ix (h:H) (r:Nat) (s:ByteArray) (R:List AV) (p n:Nat) (hg:h.get r=some (.str s::I p::R)) (hs:s.size<1125899906842624) (hp0:p≤8* s.size) (hp:8* s.size<p+n) (hn:n≤16):
 aQ AP.A 46 [.aC r 0,I n] h=some (.bO [I 0,I 101],h):=by
 have c0:¬(n:Int)<0:=by omega
 have c1:¬(16:Int)<n:=by omega
 have w1:IntKind.wrap .i64 (8* (s.size:Int))=((8* s.size:Nat):Int):=u5 (n:=8* s.size) (by omega)
 have w2:IntKind.wrap .i64 (((8* s.size:Nat):Int)-p)=((8* s.size-p:Nat):Int):=by
  rw[←Int.ofNat_sub (by omega)];exact u5 (by omega)
 have c2:((8* s.size-p:Nat):Int)<n:=by omega
 refine tr (fn:=AP.f46) (e:=[(4,I 0),(5,I 101)]) rfl rfl rfl ?_ rfl
 generalize hM:8* s.size-p=W at *
 generalize hM2:8* s.size=W2 at *
 simp only[I]at *
 simp only[AP.f46,go_sem,UQ c0,UQ c1,hg,w1,w2,US c2]
structure FC where
 f:Nat
 text:ByteArray
 most:Int
structure Ft (c:FC) (S:SS) (h:H) (ov:AV):Prop where
 gf:h.get c.f=some [.str c.text,I S.at_,ov,I c.most,I S.e]
 own:mX h ov (yH S.out)
 ff:h.floor≤c.f
 of:ov.id?≠some c.f
 nx:h.floor≤h.next
 sz:c.text.size<1125899906842624
 wP:S.at_≤8* c.text.size
 ol:(S.out.length:Int)≤c.most
 ml:c.most≤900000
structure FF (c:FC) (h:H) (ov:AV) (h':H) (ov':AV):Prop where
 fl:h'.floor=h.floor
 nx:h.next≤h'.next
 Bt:∀id,id<h.next→id≠c.f→ov.id?≠some id→h'.get id=h.get id
 nb:∀i,ov'.id?=some i→ov.id?=some i∨h.next≤i
theorem FF.refl (c:FC) (h:H) (ov:AV):FF c h ov h ov:=⟨rfl,uF _,fun _ _ _ _=>rfl,fun _ q=>.inl q⟩
theorem FF.trans {c:FC} {h1 h2 h3:H} {o1 o2 o3:AV} (a:FF c h1 o1 h2 o2) (b:FF c h2 o2 h3 o3):FF c h1 o1 h3 o3:=by
 refine⟨b.fl.trans a.fl,uX a.nx b.nx,fun id h4 h5 h7=> ?_,fun i hi=> ?_⟩
 · rw[b.Bt id (Nat.lt_of_lt_of_le h4 a.nx) h5 (fun q=> ?_),a.Bt id h4 h5 h7]
   rcases a.nb id q with q|q
   · exact h7 q
   · omega
 · rcases b.nb i hi with q|q
   · exact a.nb i q
   · exact .inr (uX a.nx q)
theorem Ft.Ek {c:FC} {S:SS} {h:H} {ov:AV} (st:Ft c S h ov) {p:Nat} (hp:p≤8* c.text.size) (e:Int):Ft c ⟨p,S.out,e⟩ (h.set c.f [.str c.text,I p,ov,I c.most,I e]) ov∧FF c h ov (h.set c.f [.str c.text,I p,ov,I c.most,I e]) ov:=by
 refine⟨⟨by rw[H.dE,if_pos rfl,st.gf];rfl,st.own.mono (by simp) fun i hi=> ?_,by simpa using st.ff,st.of,by simpa using st.nx,st.sz,hp,st.ol,st.ml⟩,⟨by simp,by simp,fun id h1 h2 h4=>by rw[H.dE,if_neg h2],fun _ q=>.inl q⟩⟩
 rw[H.dE,if_neg];intro (e:i=c.f);exact st.of (e ▸ hi)
theorem Ft.wN {c:FC} {S:SS} {h h':H} {ov:AV} (st:Ft c S h ov) (hf:h'.floor=h.floor) (hn:h.next≤h'.next) (hg:∀i,i=c.f∨ov.id?=some i→h'.get i=h.get i):Ft c S h' ov:=
 ⟨by rw[hg _ (.inl rfl)];exact st.gf,st.own.mono hf fun i hi=>hg i (.inr hi),by rw[hf];exact st.ff,st.of,by rw[hf];exact uX st.nx hn,st.sz,st.wP,st.ol,st.ml⟩
theorem Ft.lt {c:FC} {S:SS} {h:H} {ov:AV} (st:Ft c S h ov) {i:Nat} (hi:i=c.f∨ov.id?=some i):i<h.next:=by
 rcases hi with rfl|hi
 · exact h.lt _ _ st.gf
 · exact st.own.lt hi
theorem Ft.alloc {c:FC} {S:SS} {h:H} {ov:AV} (st:Ft c S h ov) (cs:List AV):Ft c S (h.alloc cs) ov∧FF c h ov (h.alloc cs) ov:=by
 refine⟨st.wN (by simp) (by simp) fun i hi=> ?_,⟨by simp,by simp,fun id h1 _ _=> ?_,fun _ q=>.inl q⟩⟩
 · have:=st.lt hi;rw[H.aV,if_neg (by omega)]
 · rw[H.aV,if_neg (by omega)]
def vE (c:FC) (n:Nat) (S:SS):Nat×SS:=if S.at_+n≤8* c.text.size then(vi c.text S.at_ n,{S with at_:=S.at_+n})else(0,vo 700 S)
theorem J8 (c:SC) (d:FC) (ht:c.text=d.text) (n:Nat) (S:SS):vm c n S=vE d n S:=by unfold vm vE;rw[ht]
theorem xw {c:FC} {S:SS} {h:H} {ov:AV} (st:Ft c S h ov) (n:Nat) (m:Int) (hm:m=n) (hn:n≤16):∃h',aQ AP.A 18 [.aC c.f 0,I m] h=some (I ((vE c n S).1:Nat),h')∧Ft c (vE c n S).2 h' ov∧FF c h ov h' ov:=by
 subst hm
 have gf:=st.gf
 by_cases hp:S.at_+n≤8* c.text.size
 · have g:=J7 h c.f c.text _ S.at_ n st.gf st.ff st.sz hp hn
   refine⟨_, ?_,by rw[vE,if_pos hp];exact(st.Ek hp S.e).1,(st.Ek hp S.e).2⟩
   rw[vE,if_pos hp]
   have c0:((0:Int) !=0)=false:=rfl
   refine tr (fn:=AP.f18) (e:=[(4,I (vi c.text S.at_ n:Nat))]) rfl rfl rfl ?_ rfl
   simp only[I]at *
   simp only[AP.f18,go_sem,g,c0]
 · have g:=Ix h c.f c.text _ S.at_ n st.gf st.sz st.wP (by omega) hn
   have c0:((101:Int) !=0)=true:=rfl
   rw[vE,if_neg hp]
   by_cases he:S.e=0
   · have c1:=tU he
     have hst:tO h c.f 4 1 [I 700] (some [.str c.text,I S.at_,ov,I c.most,I S.e])=some (h.set c.f [.str c.text,I S.at_,ov,I c.most,I 700]):=uh st.ff (by simp) rfl
     refine⟨_, ?_,by rw[vo,if_pos he];exact(st.Ek st.wP 700).1,(st.Ek st.wP 700).2⟩
     refine tr (fn:=AP.f18) (e:=[(4,I 0)]) rfl rfl rfl ?_ rfl
     simp only[I]at *
     simp only[AP.f18,go_sem,g,c0,gf,c1,hst]
   · have c1:=tT he
     refine⟨h, ?_,by rw[vo,if_neg he];exact st,FF.refl _ _ _⟩
     refine tr (fn:=AP.f18) (e:=[(4,I 0)]) rfl rfl rfl ?_ rfl
     simp only[I]at *
     simp only[AP.f18,go_sem,g,c0,gf,c1]
theorem xN {c:FC} {S:SS} {h:H} {ov:AV} (st:Ft c S h ov):∃h',aQ AP.A 25 [.aC c.f 0] h=some (.bO [],h')∧Ft c (vo 700 S) h' ov∧FF c h ov h' ov:=by
 have gf:=st.gf
 by_cases he:S.e=0
 · have c1:=tU he
   have hst:tO h c.f 4 1 [I 700] (some [.str c.text,I S.at_,ov,I c.most,I S.e])=some (h.set c.f [.str c.text,I S.at_,ov,I c.most,I 700]):=uh st.ff (by simp) rfl
   refine⟨_, ?_,by rw[vo,if_pos he];exact(st.Ek st.wP 700).1,(st.Ek st.wP 700).2⟩
   refine vZ (fn:=AP.f25) (e:=[]) rfl rfl rfl ?_ rfl
   simp only[I]at *
   simp only[AP.f25,go_sem,gf,c1,hst]
 · have c1:=tT he
   refine⟨h, ?_,by rw[vo,if_neg he];exact st,FF.refl _ _ _⟩
   refine vZ (fn:=AP.f25) (e:=[]) rfl rfl rfl ?_ rfl
   simp only[I]at *
   simp only[AP.f25,go_sem,gf,c1]
theorem Ir {c:FC} {S:SS} {h:H} {ov:AV} (st:Ft c S h ov):∃h',aQ AP.A 47 [.aC c.f 0] h=some (.bO [],h')∧Ft c {S with at_:=(S.at_+7)/8* 8} h' ov∧FF c h ov h' ov:=by
 have gf:=st.gf
 have hle:=st.wP
 have hsz:=st.sz
 have w2:IntKind.wrap .i64 ((S.at_:Int)+7)=((S.at_+7:Nat):Int):=u5 (n:=S.at_+7) (by omega)
 have w3:IntKind.wrap .i64 (((S.at_+7:Nat):Int).tdiv 8)=(((S.at_+7)/8:Nat):Int):=by
  rw[show(8:Int)=((8:Nat):Int)from rfl,xn];exact u5 (by omega)
 have w4:IntKind.wrap .i64 ((((S.at_+7)/8:Nat):Int)* 8)=(((S.at_+7)/8* 8:Nat):Int):=by
  rw[show(((S.at_+7)/8:Nat):Int)* 8=(((S.at_+7)/8* 8:Nat):Int)by omega];exact u5 (by omega)
 have q:bp .quo (.int .i64 ((S.at_+7:Nat):Int)) (.int .i64 8)=some (.int .i64 (((S.at_+7)/8:Nat):Int)):=by rw[rH _ _ _ (by omega),w3]
 have hst:tO h c.f 1 1 [I ((S.at_+7)/8* 8:Nat)] (some [.str c.text,I S.at_,ov,I c.most,I S.e])=some (h.set c.f [.str c.text,I ((S.at_+7)/8* 8:Nat),ov,I c.most,I S.e]):=uh st.ff (by simp) rfl
 have hp:(S.at_+7)/8* 8≤8* c.text.size:=by omega
 refine⟨_, ?_,(st.Ek hp S.e).1,(st.Ek hp S.e).2⟩
 refine vZ (fn:=AP.f47) (e:=[]) rfl rfl rfl ?_ rfl
 generalize (S.at_+7)/8* 8=P8 at *
 generalize (S.at_+7)/8=P at *
 generalize S.at_+7=P7 at *
 simp only[I]at *
 simp only[AP.f47,go_sem,gf,w2,q,w4,hst]
theorem FU {c : FC} {S : SS} {h : H} {ov : AV} (st : Ft c S h ov) (he : S.e = 0) (b : Nat) : ∃ h' ov' S', aQ AP.A 48 [.aC c.f 0, .int .u8 b] h = some (.bO [], h') ∧ Ft c S' h' ov' ∧ FF c h ov h' ov' ∧ S' = if c.most ≤ S.out.length then { S with e := 701 } else ⟨S.at_, S.out ++ [b], 0⟩ := by
 have gf:=st.gf
 have hol:=st.ol
 have hml:=st.ml
 have ln:=st.own.len
 rw[xu]at ln
 have c1:=tU he
 by_cases hm:c.most≤S.out.length
 · rw[if_pos hm]
   have hst:tO h c.f 4 1 [I 701] (some [.str c.text,I S.at_,ov,I c.most,I S.e])=some (h.set c.f [.str c.text,I S.at_,ov,I c.most,I 701]):=uh st.ff (by simp) rfl
   have s1:=st.Ek st.wP 701
   have gf1:=s1.1.gf
   refine⟨_,ov,_, ?_,s1.1,s1.2,rfl⟩
   refine vZ (fn:=AP.f48) (e:=[]) rfl rfl rfl ?_ rfl
   simp only[I]at *
   simp only[AP.f48,go_sem,gf,c1,ln,US hm,hst,gf1]
 · rw [if_neg hm]
   have hfl:c.f<h.next:=h.lt _ _ st.gf
   obtain⟨h1,eh1⟩:∃g,g=h.alloc [.int .u8 b]:=⟨_,rfl⟩
   have hlo1:∀i,i≠h.next→h1.get i=h.get i:=fun i q=>by rw[eh1,H.aV,if_neg q]
   have hfl1:h1.floor=h.floor:=by rw[eh1];simp
   have hnx1:h1.next=h.next+1:=by rw[eh1];simp
   have ho1:mX h1 ov (yH S.out):=st.own.mono hfl1 fun i hi=>hlo1 i (by have:=st.own.lt hi;omega)
   have hnxf:=st.nx
   obtain⟨v',h2,q1,q2,q3,q4,q5,q6⟩:=ho1.app (by omega) (z:=1) (.int .u8 b) rfl (by simp [roomy];omega)
   have src:aR h1 1 (.aD h.next 0 1 1)=some (1,[.int .u8 b]):=by simp [aR,eh1,H.aV]
   have ap:kD h1 1 1 ov (.aD h.next 0 1 1)=some (v',h2):=by unfold kD;rw[src,uC];exact q1
   have gf1:h1.get c.f=some [.str c.text,I S.at_,ov,I c.most,I S.e]:=by rw[hlo1 _ (by omega)];exact st.gf
   have gf2:h2.get c.f=some [.str c.text,I S.at_,ov,I c.most,I S.e]:=by rw[q5 _ st.of (by omega)];exact gf1
   have ff2:h2.floor≤c.f:=by have:=st.ff;omega
   have hv':v'.cells=[v']∧v'.sc=true:=by
    rcases q2 with ⟨rfl,_⟩|⟨id,rfl,_⟩<;>exact⟨rfl,rfl⟩
   have hst:tO h2 c.f 2 1 v'.cells (some [.str c.text,I S.at_,ov,I c.most,I S.e])=some (h2.set c.f [.str c.text,I S.at_,v',I c.most,I S.e]):=by rw[hv'.1];exact uh ff2 (by simp) hv'.2
   have hby:yH (S.out++[b])=yH S.out++[.int .u8 b]:=by simp [yH]
   have bt:∀e:Env,look e 34=.int .u8 b→aX e (.cR 1 1 [.int .u8 0] [(0,(.t 34))])=some ([.int .u8 b],fun i=>.aD i 0 1 1):=by
    intro e q;simp only[aX,U5,Vf,rU,q];rfl
   refine⟨h2.set c.f [.str c.text,I S.at_,v',I c.most,I S.e],v',_, ?_, ?_, ?_,rfl⟩
   · refine vZ (fn:=AP.f48) (e:=[]) rfl rfl rfl ?_ rfl
     simp only[I]at *
     simp only[AP.f48,go_sem,gf,c1,ln,UQ hm]
     rw[bt _ rfl]
     simp only[go_sem,←eh1,ap,gf2,hst]
   · refine⟨by rw[H.dE,if_pos rfl,gf2,he];rfl, ?_,by simpa using ff2, ?_,by simp;omega,st.sz,st.wP,by simp;omega,st.ml⟩
     · rw[hby]
       refine q2.mono (by simp) fun i hi=> ?_
       rw[q6]at hi;cases hi
       rw[H.dE,if_neg (by omega)]
     · rw[q6];intro e;have:=uv e;omega
   · refine⟨by simp;omega,by simp;omega,fun id a1 a2 a4=> ?_,fun i hi=> ?_⟩
     · rw[H.dE,if_neg a2,q5 id a4 (by omega),hlo1 id (by omega)]
     · rw[q6]at hi;cases hi;right;omega
def flat (l:List Int):Nat→List Int
 |0=>[]
 |n+1=>flat l n++syms l (n+1)
def I9 (l:List Int):Nat→AV:=fun i=>if i<16 then I (xZ l i)else CK (ints (flat l 15))
def vu (l:List Int):AV:=.aJ (mY 17 (I9 l)) 0
theorem zt (l:List Int):∀n,(flat l n).length≤n* l.length
 |0=>by simp [flat]
 | n + 1 => by
   rw[flat,uZ,uV,Nat.one_mul]
   have:=zt l n
   have:=zC l (n+1)
   omega
structure Qj (h0 h:H) (b:Nat) (D:Nat→AV) (k:Nat) (p S0:List Int):Prop where
 get:h.get b=some (mY 17 D)
 fl:h.floor=h0.next
 fb:h0.next≤b
 nx:h.floor≤h.next
 low:∀id,id<h0.next→h.get id=h0.get id
 ck:D k=I (xZ p k)
 own:mX h (D 16) (ints (S0++syms p k))
 nb:(D 16).id?≠some b
theorem DT (h0 : H) (b : Nat) (x : AV) (l : List Int) (hl : l.length < 1000) (hx : Rd h0 x (ints l)) (k : Nat) (hk1 : 1 ≤ k) (hk : k ≤ 15) (S0 : List Int) (hS0 : S0.length ≤ 15000) : ∀ (q p : List Int) (D : Nat → AV) (h : H), l = p ++ q → Qj h0 h b D k p S0 →
 ∃e' h' D',Lp AP.A [0,3,4,5] AP.f21L0 [(0,x),(3,.aC b 0),(4,I k),(5,I p.length)] h=some (.exit 2,e',h')∧look e' 0=x∧look e' 3=.aC b 0∧look e' 4=I k∧Qj h0 h' b D' k l S0∧∀i,i<16→i≠k→D' i=D i
 | [], p, D, h, hp, bo => by
   rw[UX]at hp;subst hp
   refine⟨[(0,x),(3,.aC b 0),(4,I k),(5,I l.length),(15,.bool false)],h,D,sY ?_,rfl,rfl,rfl,bo,fun _ _ _=>rfl⟩
   have ln:=hx.len
   rw[pt]at ln
   have c1:¬(l.length:Int)<(l.length:Int):=by omega
   simp only[I]at *
   simp only[AP.f21L0,go_sem,ln,UQ c1]
 | y :: q, p, D, h, hp, bo => by
   have ln:=hx.len
   rw[pt]at ln
   have hlen:l.length=p.length+(q.length+1):=by rw[hp];simp
   have c1:(p.length:Int)<(l.length:Int):=by omega
   have hv:(ints l)[p.length]?=some (I y):=sG (by rw[hp];simp)
   obtain⟨ad,p1,p2⟩:=hx.elem hv
   have hlow:∀id c,h0.get id=some c→h.get id=some c:=fun id c q=>by rw[bo.low id (h0.lt id c q)];exact q
   have p3:=p2 h hlow
   have w1:IntKind.wrap .i64 ((p.length:Int)+1)=(((p++[y]).length:Nat):Int):=by
    rw[uZ];exact u5 (n:=p.length+1) (by omega)
   have hcn:=Ak p y k
   have hsn:=Bh p y k
   by_cases hy:y=(k:Int)
   · have cb := tU hy
     have hcl:=zq p k
     rw[if_pos ⟨by omega,hy⟩]at hcn hsn
     have w2:IntKind.wrap .i64 ((xZ p k:Int)+1)=((xZ p k+1:Nat):Int):=u5 (n:=xZ p k+1) (by omega)
     have a1:dc (I k) 16=some k:=ki (by omega)
     have g1:(mY 17 D)[k]?=some (I (xZ p k)):=by rw[fS (by omega),bo.ck]
     have hfb:h.floor≤b:=by rw[bo.fl];exact bo.fb
     obtain⟨D1,eD1⟩:∃E,E=tR D k (I (xZ p k+1:Nat)):=⟨_,rfl⟩
     have CL:tO h b k 1 [I (xZ p k+1:Nat)] (some (mY 17 D))=some (h.set b (mY 17 D1)):=by
      rw[uh hfb (by rw[rh];omega) rfl,tw (by omega),←eD1]
     obtain⟨h1,eh1⟩:∃g,g=h.set b (mY 17 D1):=⟨_,rfl⟩
     have hbn:b<h.next:=h.lt _ _ bo.get
     have g2:h1.get b=some (mY 17 D1):=by rw[eh1,H.dE,if_pos rfl,bo.get];rfl
     have d16:D1 16=D 16:=by rw[eD1,tR,if_neg (by omega)]
     have g3:(mY 17 D1)[16]?=some (D 16):=by rw[fS (by omega),d16]
     obtain⟨h2,eh2⟩:∃g,g=h1.alloc [I p.length]:=⟨_,rfl⟩
     have hn1:h1.next=h.next:=by rw[eh1];simp
     have hlo2:∀i,i≠b→i≠h.next→h2.get i=h.get i:=fun i q1 q2=>by rw[eh2,H.aV,hn1,if_neg q2,eh1,H.dE,if_neg q1]
     have hfl2:h2.floor=h.floor:=by rw[eh2,eh1];simp
     have hnx2:h2.next=h.next+1:=by rw[eh2,eh1];simp
     have o2:mX h2 (D 16) (ints (S0++syms p k)):=bo.own.mono hfl2 fun i hi=>hlo2 i (fun e=>bo.nb (e ▸ hi)) (by have:=bo.own.lt hi;omega)
     have hsl:=zC p k
     have hnxf:=bo.nx
     obtain⟨v',h3,q1,q2,q3,q4,q5,q6⟩:=o2.app (by omega) (z:=8) (I p.length) rfl (by simp [roomy];omega)
     have src:aR h2 1 (.aD h1.next 0 1 1)=some (1,[I p.length]):=by simp [aR,eh2,H.aV]
     have ap:kD h2 1 8 (D 16) (.aD h1.next 0 1 1)=some (v',h3):=by unfold kD;rw[src,uC];exact q1
     have g4:h3.get b=some (mY 17 D1):=by
      rw[q5 b bo.nb (by omega),eh2,H.aV,if_neg (by omega)];exact g2
     have hv':v'.cells=[v']∧v'.sc=true:=by
      rcases q2 with ⟨rfl,_⟩|⟨id,rfl,_⟩<;>exact⟨rfl,rfl⟩
     obtain⟨D2,eD2⟩:∃E,E=tR D1 16 v':=⟨_,rfl⟩
     have hfb3:h3.floor≤b:=by rw[q3,hfl2];exact hfb
     have st2:tO h3 b 16 1 v'.cells (some (mY 17 D1))=some (h3.set b (mY 17 D2)):=by
      rw[hv'.1,uh hfb3 (by rw[rh];omega) hv'.2,tw (by omega),←eD2]
     have bt:∀e:Env,look e 39=.int .i64 p.length→aX e (.cR 1 1 [.int .i64 0] [(0,.t 39)])=some ([.int .i64 p.length],fun i=>.aD i 0 1 1):=by
      intro e q;simp only[aX,U5,Vf,rU,q];rfl
     have step:aK (aQ AP.A) bz AP.f21L0 (ax [(0,x),(3,.aC b 0),(4,I k),(5,I p.length)] [0,3,4,5]) h=some (.normal,[(0,x),(3,.aC b 0),(4,I k),(5,I (p++[y]).length)],h3.set b (mY 17 D2)):=by
      have gb:=bo.get
      generalize mY 17 D=T0 at *
      generalize mY 17 D1=T1 at *
      generalize mY 17 D2=T2 at *
      generalize (p++[y]).length=B at *
      generalize D 16=dv at *
      simp only[I]at *
      simp only[AP.f21L0,go_sem,ln,US c1,p1,p3,cb,a1,gb,g1,w2,CL,←eh1,g2,g3]
      rw[bt _ rfl]
      simp only[go_sem,←eh2,ap,g4,st2,w1]
     have bo2:Qj h0 (h3.set b (mY 17 D2)) b D2 k (p++[y]) S0:=by
      refine⟨by rw[H.dE,if_pos rfl,g4];rfl,by simp [q3,hfl2,bo.fl],bo.fb,by simp;omega,fun id hid=> ?_, ?_, ?_, ?_⟩
      · have hd:id≠b:=by have:=bo.fb;omega
        rw[H.dE,if_neg hd]
        have hidn:id<h.next:=by have:=bo.fb;omega
        by_cases hq:(D 16).id?=some id
        · exfalso
          have hfloor:h.floor≤id:=by
           rcases bo.own with ⟨e,_⟩|⟨j,e,_,hj,_⟩
           · rw[e]at hq;cases hq
           · rw[e]at hq;obtain rfl:=uv hq;exact hj
          rw[bo.fl]at hfloor;omega
        · rw[q5 id hq (by omega),hlo2 id hd (by omega),bo.low id hid]
      · rw[eD2,tR,if_neg (by omega),eD1,tR,if_pos rfl,hcn]
      · rw[eD2,tR,if_pos rfl]
        have:ints (S0++syms (p++[y]) k)=ints (S0++syms p k)++[I p.length]:=by rw[hsn,←List.append_assoc,pq];rfl
        rw[this]
        refine q2.mono (by simp) fun i hi=> ?_
        rw[q6]at hi;cases hi
        rw[H.dE,if_neg (by omega)]
      · rw[eD2,tR,if_pos rfl,q6];intro e;have:=uv e;omega
     obtain⟨e',h',D',r1,r2,r3,r4,r5,r6⟩:=DT h0 b x l hl hx k hk1 hk S0 hS0 q (p++[y]) D2 _ (by rw[hp];simp) bo2
     exact⟨e',h',D',sZ step r1,r2,r3,r4,r5,fun i h1 h2=>by rw[r6 i h1 h2,eD2,tR,if_neg (by omega),eD1,tR,if_neg h2]⟩
   · have cb:=tT hy
     rw[if_neg (fun q=>hy q.2),Vg]at hcn
     rw[if_neg (fun q=>hy q.2),UX]at hsn
     have step:aK (aQ AP.A) bz AP.f21L0 (ax [(0,x),(3,.aC b 0),(4,I k),(5,I p.length)] [0,3,4,5]) h=some (.normal,[(0,x),(3,.aC b 0),(4,I k),(5,I (p++[y]).length)],h):=by
      generalize (p++[y]).length=B at *
      simp only[I]at *
      simp only[AP.f21L0,go_sem,ln,US c1,p1,p3,cb,w1]
     have bo2:Qj h0 h b D k (p++[y]) S0:=⟨bo.get,bo.fl,bo.fb,bo.nx,bo.low,by rw[hcn];exact bo.ck,by rw[hsn];exact bo.own,bo.nb⟩
     obtain⟨e',h',D',r1,r2,r3,r4,r5,r6⟩:=DT h0 b x l hl hx k hk1 hk S0 hS0 q (p++[y]) D _ (by rw[hp];simp) bo2
     exact⟨e',h',D',sZ step r1,r2,r3,r4,r5,r6⟩
theorem JT (n:Nat):xZ [] n=0:=by unfold xZ;split<;>rfl
theorem Jy (n:Nat):syms [] n=[]:=by unfold syms;split<;>rfl
theorem EF (h0 : H) (b : Nat) (x : AV) (l : List Int) (hl : l.length < 1000) (hx : Rd h0 x (ints l)) : ∀ (m k : Nat) (D : Nat → AV) (h : H), k + m = 16 → 1 ≤ k →
 h.get b=some (mY 17 D)→h.floor=h0.next→h0.next≤b→h.floor≤h.next→(∀id,id<h0.next→h.get id=h0.get id)→(∀i,i<k→D i=I (xZ l i))→(∀i,k≤i→i<16→D i=I 0)→mX h (D 16) (ints (flat l (k-1)))→(D 16).id?≠some b→
 ∃e' h' D',Lp AP.A [0,3,4] AP.f21L1 [(0,x),(3,.aC b 0),(4,I k)] h=some (.exit 0,e',h')∧look e' 3=.aC b 0∧h'.get b=some (mY 17 D')∧h'.floor=h0.next∧(∀i,i<16→D' i=I (xZ l i))∧mX h' (D' 16) (ints (flat l 15))
 | 0, k, D, h, hk, hk1, hg, hf, hfb, hnx, hlow, hc, hz, ho, hnb => by
   obtain rfl:k=16:=by omega
   refine⟨[(0,x),(3,.aC b 0),(4,I 16),(9,.bool false)],h,D,sY ?_,rfl,hg,hf,hc,ho⟩
   have c1:¬(((16:Nat):Int)≤15):=by omega
   simp only[I]at *
   simp only[AP.f21L1,go_sem,UQ c1]
   rfl
 | m + 1, k, D, h, hk, hk1, hg, hf, hfb, hnx, hlow, hc, hz, ho, hnb => by
   have c1:(k:Int)≤15:=by omega
   have hfl:=zt l (k-1)
   have hS0:(flat l (k-1)).length≤15000:=by
    have:(k-1)* l.length≤15* 1000:=Nat.mul_le_mul (by omega) (by omega)
    omega
   have bo:Qj h0 h b D k [] (flat l (k-1)):=⟨hg,hf,hfb,hnx,hlow,by rw[JT,hz k (uF _) (by omega)];rfl,by rw[Jy,UX];exact ho,hnb⟩
   obtain⟨e1,h1,D1,r1,r2,r3,r4,r5,r6⟩:=DT h0 b x l hl hx k hk1 (by omega) _ hS0 l [] D h rfl bo
   have r1':Lp AP.A [0,3,4,5] AP.f21L0 [(0,x),(3,.aC b 0),(4,I k),(5,I 0)] h=some (.exit 2,e1,h1):=r1
   clear r1
   have w1:IntKind.wrap .i64 ((k:Int)+1)=((k+1:Nat):Int):=u5 (n:=k+1) (by omega)
   have step:aK (aQ AP.A) bz AP.f21L1 (ax [(0,x),(3,.aC b 0),(4,I k)] [0,3,4]) h=some (.normal,[(0,x),(3,.aC b 0),(4,I (k+1:Nat))],h1):=by
    simp only[I]at *
    simp only[AP.f21L1,go_sem,US c1,rR,r1',r2,r3,r4,w1]
   have hfk:flat l (k+1-1)=flat l (k-1)++syms l k:=by
    obtain⟨j,rfl⟩:∃j,k=j+1:=⟨k-1,by omega⟩
    rfl
   obtain⟨e',h',D',q1,q2,q3,q4,q5,q6⟩:=EF h0 b x l hl hx m (k+1) D1 h1 (by omega) (by omega) r5.get r5.fl r5.fb r5.nx r5.low
    (fun i hi=>by
      by_cases e:i=k
      · subst e;exact r5.ck
      · rw[r6 i (by omega) e];exact hc i (by omega))
    (fun i h1 h2=>by rw[r6 i h2 (by omega)];exact hz i (by omega) h2) (by rw[hfk];exact r5.own) r5.nb
   exact⟨e',h',D',sZ step q1,q2,q3,q4,q5,q6⟩
def SP:Nat→AV:=fun i=>if i<16 then I 0 else .aO
theorem zm (h : H) (x : AV) (l : List Int) (hl : l.length < 1000) (hx : Rd h x (ints l)) : aQ AP.A 21 [x] h = some (vu l, h) := by
 obtain⟨h1,eh1⟩:∃g,g=h.dX.alloc (mY 17 SP):=⟨_,rfl⟩
 have hg1:h1.get h.next=some (mY 17 SP):=by rw[eh1,H.aV,if_pos (show h.next=h.dX.next from rfl)]
 obtain⟨e',h2,D,q1,q2,q3,q4,q5,q6⟩:=EF h h.next x l hl hx 15 1 SP h1 rfl (by omega) hg1 (by rw[eh1];simp) (uF _) (by rw[eh1];simp)
  (fun id hid=>by rw[eh1,H.aV,if_neg (by show id≠h.next;omega)];rfl)
  (fun i hi => by obtain rfl : i = 0 := by omega
                  rfl)
  (fun i h1 h2=>by simp only[SP,if_pos h2]) (.inl ⟨rfl,rfl⟩) (by intro e;cases e)
 have q1':Lp AP.A [0,3,4] AP.f21L1 [(0,x),(3,.aC h.next 0),(4,I 1)] h1=some (.exit 0,e',h2):=q1
 clear q1
 refine tM (fn:=AP.f21) (h2:=h2) (e:=[(2,.aC h.next 0)]) (vs:=[.aC h.next 0]) rfl rfl rfl ?_ rfl ?_
 · unfold AP.f21
   refine ue (e1:=[(0,x)]) (h1:=h.dX) rfl ?_
   refine ue (e1:=[(0,x),(3,.aC h.next 0)]) (h1:=h1) (by rw[eh1];rfl) ?_
   simp only[I]at *
   simp only[go_sem,rR,q1',q2]
 · show snap h2.get h.next 16 true (.aC h.next 0)=_
   have hm:fJ (snap h2.get h.next 15 false) (mY 17 D)=some (mY 17 (I9 l)):=by
    refine Gu 17 fun i hi=> ?_
    by_cases c1:i<16
    · rw[q5 i c1,I9,if_pos c1];rfl
    · obtain rfl:i=16:=by omega
      rw[I9,if_neg (by omega)]
      exact Fo (n:=13) q6 (by rw[q4];exact uF _) (xh _ _ _ _ _)
   simp only[snap,if_neg (Nat.lt_irrefl _),q3,uC,hm,vu]
theorem ES (l : List Int) {n i : Nat} (hi : i < (syms l (n + 1)).length) : ∀ m, n + 1 ≤ m → (flat l m)[(flat l n).length + i]? = (syms l (n + 1))[i]?
 |0,h=>by omega
 | m + 1, h => by
   rw[flat]
   by_cases e:n=m
   · subst e
     rw[List.getElem?_append_right (by omega),Nat.add_sub_cancel_left]
   · have ih:=ES l hi m (by omega)
     have hlt:(flat l n).length+i<(flat l m).length:=by
      have:((syms l (n+1))[i]?).isSome=true:=by rw[Vb hi];rfl
      rw[←ih]at this
      obtain⟨x,hx⟩:=Option.isSome_iff_exists.1 this
      exact(uB.1 hx).1
     rw[List.getElem?_append_left hlt];exact ih
theorem Hu {c:FC} {S:SS} {h:H} {ov:AV} (st:Ft c S h ov) (b:AV) (v f a n:Int) (hs:n=16∨(n≤15∧S.e≠0)):
 ∃e',Lp AP.A [0,1,5,6,7,8] AP.f49L0 [(0,.aC c.f 0),(1,b),(5,I v),(6,I f),(7,I a),(8,I n)] h=some (.exit 0,e',h)∧look e' 0=.aC c.f 0:=by
 have gf:=st.gf
 refine⟨[(0,.aC c.f 0),(1,b),(5,I v),(6,I f),(7,I a),(8,I n),(17,.bool false)],sY ?_,rfl⟩
 rcases hs with hn|⟨hn,he⟩
 · have c1:¬n≤15:=by omega
   simp only[I]at *
   simp only[AP.f49L0,go_sem,UQ c1]
 · have c2:(S.e==0)=false:=tT he
   simp only[I]at *
   simp only[AP.f49L0,go_sem,US hn,gf,c2]
theorem Kq {v x:Nat} (hx:x<2):(v* 2|||x)=v* 2+x:=by
 have:=Nat.two_pow_add_eq_or_of_lt (i:=1) (show x<2^1 by omega) v
 rw[Nat.mul_comm v 2]
 simpa using this.symm
theorem Di {c : FC} (l : List Int) (hl : l.length < 1000) : ∀ (k n v : Nat) (S : SS) (h : H) (ov : AV), n + 1 + k = 16 → v < 2 ^ n → vw l (n + 1) ≤ (v * 2 : Nat) → Ft c S h ov → S.e = 0 →
 ∃ h' S', Ft c S' h' ov ∧ FF c h ov h' ov ∧ match xQ c.text l k (n + 1) v S.at_ with
   |some (y,p)=>S'={S with at_:=p}∧∃e',Lp AP.A [0,1,5,6,7,8] AP.f49L0 [(0,.aC c.f 0),(1,vu l),(5,I (v* 2:Nat)),(6,I (vw l (n+1))),(7,I (flat l n).length),(8,I (n+1:Nat))] h=some (.ret,e',h')∧look e' 4=I y
   |none=>(S'.e=0∧∃e',Lp AP.A [0,1,5,6,7,8] AP.f49L0 [(0,.aC c.f 0),(1,vu l),(5,I (v* 2:Nat)),(6,I (vw l (n+1))),(7,I (flat l n).length),(8,I (n+1:Nat))] h=some (.exit 0,e',h')∧look e' 0=.aC c.f 0)∨
    (S'.e=700∧∃e',Lp AP.A [0,1,5,6,7,8] AP.f49L0 [(0,.aC c.f 0),(1,vu l),(5,I (v* 2:Nat)),(6,I (vw l (n+1))),(7,I (flat l n).length),(8,I (n+1:Nat))] h=some (.ret,e',h')∧look e' 4=I (-1))
 | 0, n, v, S, h, ov, hk, hv, hf, st, he => by
   obtain⟨e',q1,q2⟩:=Hu st (vu l) (v* 2:Nat) (vw l (n+1)) (flat l n).length (n+1:Nat) (.inl (by omega))
   exact⟨h,S,st,FF.refl _ _ _,by simp only[xQ];exact .inl ⟨he,e',q1,q2⟩⟩
 | k + 1, n, v, S, h, ov, hk, hv, hf, st, he => by
   have gf:=st.gf
   obtain⟨h1,k1,k2,k3⟩:=xw st 1 1 rfl (by omega)
   have c1:((n+1:Nat):Int)≤15:=by omega
   have hp:2^n≤2^14:=U4 (by omega) (by omega)
   by_cases hat:S.at_+1≤8* c.text.size
   · have eg:vE c 1 S=(vi c.text S.at_ 1,{S with at_:=S.at_+1}):=by rw[vE,if_pos hat]
     rw[eg]at k1 k2
     dsimp only at k1 k2
     have gf1:=k2.gf
     dsimp only at gf1
     rw[xQ,if_pos hat]
     obtain⟨x,hx⟩:∃x,x=vi c.text S.at_ 1:=⟨_,rfl⟩
     have hx2:x<2:=by rw[hx];simpa using vU c.text S.at_ 1
     rw[←hx]at k1 ⊢
     have o1:bits .or .i64 ((v* 2:Nat):Int) (x:Int)=((v* 2+x:Nat):Int):=by rw[BD (by omega) (by omega),Kq hx2]
     have ce:(S.e !=0)=false:=tV he
     have hcl:=zq l (n+1)
     have hfb:=AX (show l.length<100000 by omega) (n+1)
     have hp2:=A9 (show n+1≤15 by omega)
     have a1:dc (I (n+1:Nat)) 16=some (n+1):=ki (by omega)
     have g1:(mY 17 (I9 l))[n+1]?=some (I (xZ l (n+1))):=by rw[fS (by omega),I9,if_pos (by omega)]
     have g2:(mY 17 (I9 l))[16]?=some (CK (ints (flat l 15))):=by rw[fS (by omega),I9,if_neg (by omega)]
     have w1:IntKind.wrap .i64 (((v* 2+x:Nat):Int)-(xZ l (n+1):Int))=((v* 2+x:Nat):Int)-(xZ l (n+1):Int):=tx (by omega) (by omega)
     have hsc:=Fx l (n+1)
     have hfll:=zt l n
     have hfln:n* l.length≤15* 1000:=Nat.mul_le_mul (by omega) (by omega)
     have hrb:vu l=.aJ (mY 17 (I9 l)) 0:=rfl
     have hf2:vw l (n+1+1)=(vw l (n+1)+xZ l (n+1))* 2:=rfl
     by_cases hlt:((v* 2+x:Nat):Int)-(xZ l (n+1):Int)<vw l (n+1)
     ·
      obtain⟨i,hi⟩:∃i:Nat,((v* 2+x:Nat):Int)-vw l (n+1)=i:=U9 (by omega)
      have hil:i<(syms l (n+1)).length:=by omega
      obtain⟨y,hy⟩:∃y,(syms l (n+1))[i]?=some y:=⟨_,Vb hil⟩
      have hfd:yb l (n+1) ((v* 2+x:Nat):Int)=some y:=by rw[yb,if_pos (by omega),hi,Vh,hy]
      rw[hfd]
      have hflat:=ES l hil 15 (by omega)
      rw[hy]at hflat
      have hfl15:(flat l n).length+i<(flat l 15).length:=(uB.1 hflat).1
      have hne:ints (flat l 15)≠[]:=by intro e;have:=Vi List.length e;simp at this;simp [this]at hfl15
      have hs:CK (ints (flat l 15))=.aU false (ints (flat l 15)) 0 (ints (flat l 15)).length 1:=by rw[CK,if_neg hne]
      rw[hs]at g2
      have w2:IntKind.wrap .i64 (((flat l n).length:Int)+((v* 2+x:Nat):Int))=(((flat l n).length+(v* 2+x):Nat):Int):=by
       rw[show((flat l n).length:Int)+((v* 2+x:Nat):Int)=(((flat l n).length+(v* 2+x):Nat):Int)by omega];exact u5 (by omega)
      have w3:IntKind.wrap .i64 ((((flat l n).length+(v* 2+x):Nat):Int)-vw l (n+1))=(((flat l n).length+i:Nat):Int):=by
       rw[show(((flat l n).length+(v* 2+x):Nat):Int)-vw l (n+1)=(((flat l n).length+i:Nat):Int)by omega];exact u5 (by omega)
      have a2:fU 1 (.aU false (ints (flat l 15)) 0 (ints (flat l 15)).length 1) (I ((flat l n).length+i:Nat))=some (.aJ (ints (flat l 15)) ((flat l n).length+i)):=by
       have:=ki (show(flat l n).length+i<(ints (flat l 15)).length by rw[pt];exact hfl15)
       simp only[fU,if_true,this,uC,uK,Vk]
      have g3:=sG hflat
      refine⟨h1,_,k2,k3,rfl,[(4,I y)],tC ?_,rfl⟩
      rw[hrb]
      clear hrb hs hne hflat hy hfd hf2
      generalize mY 17 (I9 l)=T at *
      generalize ints (flat l 15)=FS at *
      generalize (flat l n).length=FL at *
      generalize vw l (n+1)=FC1 at *
      generalize FL+(v* 2+x)=VV at *
      generalize FL+i=VI2 at *
      generalize v* 2+x=VX at *
      generalize v* 2=V2 at *
      simp only[I]at *
      simp only[AP.f49L0,go_sem,US c1,gf,he,k1,o1,gf1,ce,a1,g1,w1,US hlt,g2,w2,w3,a2,g3]
     · have hfd:yb l (n+1) ((v* 2+x:Nat):Int)=none:=by rw[yb,if_pos (by omega),List.getElem?_eq_none (by omega)]
       rw[hfd]
       have w2:IntKind.wrap .i64 (((flat l n).length:Int)+(xZ l (n+1):Int))=((flat l (n+1)).length:Int):=by
        rw[show((flat l n).length:Int)+(xZ l (n+1):Int)=((flat l (n+1)).length:Int)by rw[flat,uZ,hsc];omega]
        refine u5 ?_
        rw[flat,uZ,hsc];omega
       have w3:IntKind.wrap .i64 (vw l (n+1)+(xZ l (n+1):Int))=vw l (n+1)+(xZ l (n+1):Int):=tx (by omega) (by omega)
       have s1:oV .shl .i64 (vw l (n+1)+(xZ l (n+1):Int)) 1=some (.int .i64 (vw l (n+1+1))):=by
        obtain⟨z,hz⟩:∃z:Nat,vw l (n+1)+(xZ l (n+1):Int)=z:=U9 (by omega)
        have:=yq (a:=z) (s:=1) (by omega) (by omega)
        rw[hf2,hz]
        rw[show((1:Nat):Int)=1 from rfl]at this
        rw[this];simp
       have s2:oV .shl .i64 ((v* 2+x:Nat):Int) 1=some (.int .i64 (((v* 2+x)* 2:Nat):Int)):=by
        have:=yq (a:=v* 2+x) (s:=1) (by omega) (by omega)
        exact this
       have w4:IntKind.wrap .i64 (((n+1:Nat):Int)+1)=((n+1+1:Nat):Int):=u5 (n:=n+1+1) (by omega)
       have step:aK (aQ AP.A) bz AP.f49L0 (ax [(0,.aC c.f 0),(1,vu l),(5,I (v* 2:Nat)),(6,I (vw l (n+1))),(7,I (flat l n).length),(8,I (n+1:Nat))] [0,1,5,6,7,8]) h=some (.normal,[(0,.aC c.f 0),(1,vu l),(5,I ((v* 2+x)* 2:Nat)),(6,I (vw l (n+1+1))),(7,I (flat l (n+1)).length),(8,I (n+1+1:Nat))],h1):=by
        rw[hrb]
        clear hrb hfd
        generalize mY 17 (I9 l)=T at *
        generalize (flat l n).length=FL at *
        generalize (flat l (n+1)).length=FL1 at *
        generalize vw l (n+1)=FC1 at *
        generalize vw l (n+1+1)=FC2 at *
        generalize (v* 2+x)* 2=VV at *
        generalize v* 2+x=VX at *
        generalize v* 2=V2 at *
        rw[he]at gf gf1
        simp only[I]at *
        simp only[AP.f49L0,go_sem,US c1,gf,k1,o1,gf1,a1,g1,w1,UQ hlt,w2,w3,s1,s2,w4]
       have hv2:v* 2+x<2^(n+1):=by rw[Nat.pow_succ];omega
       obtain⟨h',S',q1,q2,q3⟩:=Di l hl k (n+1) (v* 2+x) _ h1 ov (by omega) hv2 (by rw[hf2];omega) k2 he
       refine⟨h',S',q1,k3.trans q2, ?_⟩
       dsimp only at q3 ⊢
       cases hy:xQ c.text l k (n+1+1) (v* 2+x) (S.at_+1)with
       | none =>
         rw[hy]at q3
         rcases q3 with ⟨q3,e',q4,q5⟩|⟨q3,e',q4,q5⟩
         · exact .inl ⟨q3,e',sZ step q4,q5⟩
         · exact .inr ⟨q3,e',sZ step q4,q5⟩
       | some yp =>
         rw[hy]at q3
         obtain⟨q3,e',q4,q5⟩:=q3
         exact⟨q3,e',sZ step q4,q5⟩
   · have eg:vE c 1 S=(0,{S with e:=700}):=by rw[vE,if_neg hat,vo,if_pos he]
     rw[eg]at k1 k2
     dsimp only at k1 k2
     have gf1:=k2.gf
     dsimp only at gf1
     rw[xQ,if_neg hat]
     have o1:bits .or .i64 ((v* 2:Nat):Int) ((0:Nat):Int)=((v* 2:Nat):Int):=by rw[BD (by omega) (by omega)];simp
     refine⟨h1,_,k2,k3,.inr ⟨rfl,[(4,I (-1))],tC ?_,rfl⟩⟩
     rw[he]at gf
     generalize v* 2=V2 at *
     simp only[I]at *
     simp only[AP.f49L0,go_sem,US c1,gf,k1,o1,gf1]
theorem AY {c:FC} {S:SS} {h:H} {ov:AV} (l:List Int) (hl:l.length<1000) (st:Ft c S h ov) (he:S.e=0):
 ∃ h' S' y, aQ AP.A 49 [.aC c.f 0, vu l] h = some (I y, h') ∧ Ft c S' h' ov ∧ FF c h ov h' ov ∧ match xQ c.text l 15 1 0 S.at_ with
   |some (z,p)=>S'={S with at_:=p}∧y=z
   |none=>S'.e=700∧y= -1:=by
 obtain⟨h1,S1,q1,q2,q3⟩:=Di l hl 15 0 0 S h ov (by omega) (by simp) (by simp [vw,xZ]) st he
 have conv:∀r,Lp AP.A [0,1,5,6,7,8] AP.f49L0 [(0,.aC c.f 0),(1,vu l),(5,I (0* 2:Nat)),(6,I (vw l (0+1))),(7,I (flat l 0).length),(8,I (0+1:Nat))] h=r→Lp AP.A [0,1,5,6,7,8] AP.f49L0 [(0,.aC c.f 0),(1,vu l),(5,I 0),(6,I 0),(7,I 0),(8,I 1)] h=r:=by
  intro r hr
  have h1:vw l (0+1)=0:=by simp [vw,xZ]
  rw[h1]at hr
  exact hr
 cases hy:xQ c.text l 15 1 0 S.at_ with
 | some yp =>
   have hy':xQ c.text l 15 (0+1) 0 S.at_=some yp:=hy
   rw[hy']at q3
   obtain⟨q3,e',q4,q5⟩:=q3
   refine⟨h1,S1,yp.1, ?_,q1,q2,q3,rfl⟩
   have q6:=conv _ q4
   clear q4
   refine tr (fn:=AP.f49) (e:=e') (vs:=[I yp.1]) rfl rfl rfl ?_ (by simp only[AP.f49,cL,mQ,q5];rfl)
   simp only[I]at *
   simp only[AP.f49,go_sem,rR,q6]
 | none =>
   have hy':xQ c.text l 15 (0+1) 0 S.at_=none:=hy
   rw[hy']at q3
   rcases q3 with ⟨q3,e',q4,q5⟩|⟨q3,e',q4,q5⟩
   · have q6:=conv _ q4
     clear q4
     obtain⟨h2,r1,r2,r3⟩:=xN q1
     refine⟨h2,vo 700 S1,-1, ?_,r2,q2.trans r3,by simp [vo,q3],rfl⟩
     refine tr (fn:=AP.f49) (e:=[(4,I (-1))]) rfl rfl rfl ?_ rfl
     simp only[I]at *
     simp only[AP.f49,go_sem,rR,q6,q5,r1]
   · have q6:=conv _ q4
     clear q4
     refine⟨h1,S1,-1, ?_,q1,q2,q3,rfl⟩
     refine tr (fn:=AP.f49) (e:=e') (vs:=[I (-1)]) rfl rfl rfl ?_ (by simp only[AP.f49,cL,mQ,q5];rfl)
     simp only[I]at *
     simp only[AP.f49,go_sem,rR,q6]
theorem IG (h:H) (y:Nat) (hy:y<1000000):aQ AP.A 50 [I y] h=some (zD (lenOf y),h):=by
 by_cases c1:y≤256
 · rw[lenOf,if_pos (.inl c1)]
   refine tM (fn:=AP.f50) (h2:=h.dX) (e:=[(2,I 0),(3,I 0),(4,I 600)]) rfl rfl rfl ?_ rfl rfl
   have c1':(y:Int)<257:=by omega
   simp only[I]at *
   simp only[AP.f50,go_sem,US c1']
 have c1':¬(y:Int)<257:=by omega
 by_cases c2:285<y
 · rw[lenOf,if_pos (.inr c2)]
   refine tM (fn:=AP.f50) (h2:=h.dX) (e:=[(2,I 0),(3,I 0),(4,I 600)]) rfl rfl rfl ?_ rfl rfl
   have c2':(285:Int)<y:=by omega
   simp only[I]at *
   simp only[AP.f50,go_sem,UQ c1',US c2']
 have c2':¬(285:Int)<y:=by omega
 rw[lenOf,if_neg (by omega)]
 by_cases c3:y=285
 · rw[if_pos c3]
   refine tM (fn:=AP.f50) (h2:=h.dX) (e:=[(2,I 258),(3,I 0),(4,I 0)]) rfl rfl rfl ?_ rfl rfl
   have c3':((y:Int)==285)=true:=tU (by omega)
   simp only[I]at *
   simp only[AP.f50,go_sem,UQ c1',UQ c2',c3']
 rw[if_neg c3]
 have c3':((y:Int)==285)=false:=tT (by omega)
 by_cases c4:y<265
 · rw[if_pos c4]
   refine tM (fn:=AP.f50) (h2:=h.dX) (e:=[(2,I (y-254:Nat)),(3,I 0),(4,I 0)]) rfl rfl rfl ?_ rfl rfl
   have c4':(y:Int)<265:=by omega
   have w3:IntKind.wrap .i64 ((y:Int)-254)=((y-254:Nat):Int):=by rw[show(y:Int)-254=((y-254:Nat):Int)by omega];exact u5 (by omega)
   simp only[I]at *
   simp only[AP.f50,go_sem,UQ c1',UQ c2',c3',US c4',w3]
 rw[if_neg c4]
 have c4':¬(y:Int)<265:=by omega
 obtain⟨k,hk⟩:∃k:Nat,y-261=k:=⟨_,rfl⟩
 have w1:IntKind.wrap .i64 ((y:Int)-261)=(k:Int):=by rw[show(y:Int)-261=(k:Int)by omega];exact u5 (by omega)
 rw[show(y-257)/4-1=k/4-0 by omega,Nat.sub_zero,show(y-257)%4=k%4 by omega]
 have q1:bp .quo (.int .i64 (k:Int)) (.int .i64 4)=some (.int .i64 ((k/4:Nat):Int)):=by
  rw[rH _ _ _ (by omega),show(4:Int)=((4:Nat):Int)from rfl,xn,u5 (by omega)]
 have q2:bp .rem (.int .i64 (k:Int)) (.int .i64 4)=some (.int .i64 ((k%4:Nat):Int)):=by
  rw[rI _ _ _ (by omega),show(4:Int)=((4:Nat):Int)from rfl,yV]
 have w4:IntKind.wrap .i64 (4+((k%4:Nat):Int))=((4+k%4:Nat):Int):=by rw[show 4+((k%4:Nat):Int)=((4+k%4:Nat):Int)by omega];exact u5 (by omega)
 have hp:2^(k/4)≤2^5:=U4 (by omega) (by omega)
 have hm:(4+k%4)* 2^(k/4)≤7* 2^5:=Nat.mul_le_mul (by omega) hp
 have q3:oV .shl .i64 ((4+k%4:Nat):Int) ((k/4:Nat):Int)=some (.int .i64 (((4+k%4)* 2^(k/4):Nat):Int)):=yq (by omega) (by omega)
 generalize (4+k%4)* 2^(k/4)=P at *
 have w5:IntKind.wrap .i64 (3+(P:Int))=((3+P:Nat):Int):=by rw[show 3+(P:Int)=((3+P:Nat):Int)by omega];exact u5 (by omega)
 refine tM (fn:=AP.f50) (h2:=h.dX) (e:=[(2,I (3+P:Nat)),(3,I (k/4:Nat)),(4,I 0)]) rfl rfl rfl ?_ rfl rfl
 simp only[I]at *
 simp only[AP.f50,go_sem,UQ c1',UQ c2',c3',UQ c4',w1,q1,q2,w4,q3,w5]
theorem Hp (h:H) (y:Nat) (hy:y<1000000):aQ AP.A 51 [I y] h=some (zD (xI y),h):=by
 have c0:¬(y:Int)<0:=by omega
 by_cases c1:30≤y
 · rw[xI,if_pos c1]
   refine tM (fn:=AP.f51) (h2:=h.dX) (e:=[(2,I 0),(3,I 0),(4,I 600)]) rfl rfl rfl ?_ rfl rfl
   have c1':(29:Int)<y:=by omega
   simp only[I]at *
   simp only[AP.f51,go_sem,UQ c0,US c1']
 have c1':¬(29:Int)<y:=by omega
 rw[xI,if_neg c1]
 by_cases c2:y<4
 · rw[if_pos c2]
   refine tM (fn:=AP.f51) (h2:=h.dX) (e:=[(2,I (1+y:Nat)),(3,I 0),(4,I 0)]) rfl rfl rfl ?_ rfl rfl
   have c2':(y:Int)<4:=by omega
   have w3:IntKind.wrap .i64 ((y:Int)+1)=((1+y:Nat):Int):=by rw[show(y:Int)+1=((1+y:Nat):Int)by omega];exact u5 (by omega)
   simp only[I]at *
   simp only[AP.f51,go_sem,UQ c0,UQ c1',US c2',w3]
 rw[if_neg c2]
 have c2':¬(y:Int)<4:=by omega
 have w1:IntKind.wrap .i64 ((y:Int)-2)=((y-2:Nat):Int):=by rw[show(y:Int)-2=((y-2:Nat):Int)by omega];exact u5 (by omega)
 have q1:bp .quo (.int .i64 ((y-2:Nat):Int)) (.int .i64 2)=some (.int .i64 ((y/2-1:Nat):Int)):=by
  rw[rH _ _ _ (by omega),show(2:Int)=((2:Nat):Int)from rfl,xn,u5 (by omega),show(y-2)/2=y/2-1 by omega]
 have q2:bp .rem (.int .i64 (y:Int)) (.int .i64 2)=some (.int .i64 ((y%2:Nat):Int)):=by
  rw[rI _ _ _ (by omega),show(2:Int)=((2:Nat):Int)from rfl,yV]
 have w4:IntKind.wrap .i64 (2+((y%2:Nat):Int))=((2+y%2:Nat):Int):=by rw[show 2+((y%2:Nat):Int)=((2+y%2:Nat):Int)by omega];exact u5 (by omega)
 have hp:2^(y/2-1)≤2^13:=U4 (by omega) (by omega)
 have hm:(2+y%2)* 2^(y/2-1)≤3* 2^13:=Nat.mul_le_mul (by omega) hp
 have q3:oV .shl .i64 ((2+y%2:Nat):Int) ((y/2-1:Nat):Int)=some (.int .i64 (((2+y%2)* 2^(y/2-1):Nat):Int)):=yq (by omega) (by omega)
 generalize (2+y%2)* 2^(y/2-1)=P at *
 have w5:IntKind.wrap .i64 (1+(P:Int))=((1+P:Nat):Int):=by rw[show 1+(P:Int)=((1+P:Nat):Int)by omega];exact u5 (by omega)
 refine tM (fn:=AP.f51) (h2:=h.dX) (e:=[(2,I (1+P:Nat)),(3,I (y/2-1:Nat)),(4,I 0)]) rfl rfl rfl ?_ rfl rfl
 simp only[I]at *
 simp only[AP.f51,go_sem,UQ c0,UQ c1',UQ c2',w1,q1,q2,w4,q3,w5]
theorem yc {c:FC} {S:SS} {h:H} {ov:AV} (st:Ft c S h ov) (n i:Nat) (hs:n≤i∨(i<n∧S.e≠0)):
 ∃e',Lp AP.A [0,2,4] AP.f19L0 [(0,.aC c.f 0),(2,I n),(4,I i)] h=some (.exit 0,e',h):=by
 have gf:=st.gf
 refine⟨[(0,.aC c.f 0),(2,I n),(4,I i),(36,.bool false)],sY ?_⟩
 rcases hs with hn|⟨hn,he⟩
 · have c1:¬(i:Int)<n:=by omega
   simp only[I]at *
   simp only[AP.f19L0,go_sem,UQ c1]
 · have c1:(i:Int)<n:=by omega
   have c2:=tT he
   simp only[I]at *
   simp only[AP.f19L0,go_sem,US c1,gf,c2]
theorem Bq {c : FC} (n : Nat) (hn : n ≤ 65535) : ∀ (m i : Nat) (S : SS) (h : H) (ov : AV), i + m = n → Ft c S h ov → S.e = 0 →
 ∃e' h' ov' S',Lp AP.A [0,2,4] AP.f19L0 [(0,.aC c.f 0),(2,I n),(4,I i)] h=some (.exit 0,e',h')∧Ft c S' h' ov'∧FF c h ov h' ov'∧Fin (w8 c.text c.most m S.at_ S.out) S'
 | 0, i, S, h, ov, hm, st, he => by
   obtain⟨e',q⟩:=yc st n i (.inl (by omega))
   exact⟨e',h,ov,S,q,st,FF.refl _ _ _,by simp only[w8,Fin];cases S;simp_all⟩
 | m + 1, i, S, h, ov, hm, st, he => by
   have gf:=st.gf
   obtain⟨h1,k1,k2,k3⟩:=xw st 8 8 rfl (by omega)
   have c1:(i:Int)<n:=by omega
   have w1:IntKind.wrap .i64 ((i:Int)+1)=((i+1:Nat):Int):=u5 (n:=i+1) (by omega)
   by_cases hp:S.at_+8≤8* c.text.size
   · have eg:vE c 8 S=(vi c.text S.at_ 8,{S with at_:=S.at_+8}):=by rw[vE,if_pos hp]
     rw[eg]at k1 k2
     dsimp only at k1 k2
     have gf1:=k2.gf
     obtain⟨h2,ov2,S2,p1,p2,p3,p4⟩:=FU k2 he (vi c.text S.at_ 8)
     have hb:=vU c.text S.at_ 8
     have w2:IntKind.wrap .u8 ((vi c.text S.at_ 8:Nat):Int)=((vi c.text S.at_ 8:Nat):Int):=wrap_u8 (by simpa using hb)
     have step:aK (aQ AP.A) bz AP.f19L0 (ax [(0,.aC c.f 0),(2,I n),(4,I i)] [0,2,4]) h=some (.normal,[(0,.aC c.f 0),(2,I n),(4,I (i+1:Nat))],h2):=by
      dsimp only at gf1
      rw[he]at gf gf1
      simp only[I]at *
      simp only[AP.f19L0,go_sem,US c1,gf,k1,gf1,w2,p1,w1]
     rw[w8,if_pos hp]
     dsimp only at p4
     by_cases hm':c.most≤S.out.length
     · rw[if_pos hm']at p4 ⊢
       have he2:S2.e=701:=by rw[p4]
       have hs:n≤i+1∨(i+1<n∧S2.e≠0):=by
        by_cases q:i+1<n
        · exact .inr ⟨q,by rw[he2];decide⟩
        · exact .inl (by omega)
       obtain⟨e',q⟩:=yc p2 n (i+1) hs
       exact⟨e',h2,ov2,_,sZ step q,p2,k3.trans p3,he2,by decide⟩
     · rw[if_neg hm']at p4 ⊢
       subst p4
       obtain⟨e',h',ov',S',q1,q2,q3,q4⟩:=Bq n hn m (i+1) _ h2 ov2 (by omega) p2 rfl
       exact⟨e',h',ov',S',sZ step q1,q2,(k3.trans p3).trans q3,q4⟩
   · have eg:vE c 8 S=(0,{S with e:=700}):=by rw[vE,if_neg hp,vo,if_pos he]
     rw[eg]at k1 k2
     dsimp only at k1 k2
     have gf1:=k2.gf
     have step:aK (aQ AP.A) bz AP.f19L0 (ax [(0,.aC c.f 0),(2,I n),(4,I i)] [0,2,4]) h=some (.normal,[(0,.aC c.f 0),(2,I n),(4,I (i+1:Nat))],h1):=by
      dsimp only at gf1
      rw[he]at gf
      simp only[I]at *
      simp only[AP.f19L0,go_sem,US c1,gf,k1,gf1,w1]
     rw[w8,if_neg hp]
     have hs:n≤i+1∨(i+1<n∧(700:Int)≠0):=by
      by_cases q:i+1<n
      · exact .inr ⟨q,by decide⟩
      · exact .inl (by omega)
     obtain⟨e',q⟩:=yc k2 n (i+1) hs
     exact⟨e',h1,ov,_,sZ step q,k2,k3,rfl,by decide⟩
theorem BU {a b:Nat} (ha:a<65536) (hb:b<65536):bits .xor .i64 (a:Int) (b:Int)=((a^^^b:Nat):Int):=by
 have h3:a^^^b<2^16:=Nat.xor_lt_two_pow (by simpa using ha) (by simpa using hb)
 show IntKind.wrap .i64 (((BitVec.ofInt 64 (a:Int)^^^BitVec.ofInt 64 (b:Int)).toNat:Nat):Int)=_
 rw[BitVec.toNat_xor,xr 64 a (by omega),xr 64 b (by omega)]
 exact u5 (by omega)
theorem Eo {n:Nat} (hn:n<65536):n^^^65535=65535-n:=by
 have h1:=FA hn
 have h2:=BU hn (b:=65535) (by omega)
 rw[show((65535:Nat):Int)=65535 from rfl,h1]at h2
 omega
theorem GZ {a b:Nat} (ha:a<65536) (hb:b<65536):a^^^b=65535↔a+b=65535:=by
 have h1:=Eo ha
 constructor
 · intro h
   have:b=a^^^65535:=by rw[←h,←Nat.xor_assoc,Nat.xor_self,Nat.zero_xor]
   omega
 · intro h
   have:b=a^^^65535:=by omega
   rw[this,←Nat.xor_assoc,Nat.xor_self,Nat.zero_xor]
theorem AZ (c:FC) (n:Nat) (S:SS) (h:S.e=0∨S.e=700):(vE c n S).2.e=0∨(vE c n S).2.e=700:=by
 unfold vE;split
 · exact h
 · rcases h with h|h<;>simp [vo,h]
theorem D4 (c:FC) (S:SS) (n:Nat) (hn:n≤16):(vE c n S).1<65536:=by
 unfold vE;split
 · have:=vU c.text S.at_ n
   have:=U4 (show 0<2 by omega) hn
   simp at *;omega
 · simp
theorem Ht {c : FC} {S : SS} {h : H} {ov : AV} (st : Ft c S h ov) (he : S.e = 0) :
 ∃h' ov' S',aQ AP.A 19 [.aC c.f 0] h=some (.bO [],h')∧Ft c S' h' ov'∧FF c h ov h' ov'∧Fin (yr c.text c.most S.at_ S.out) S':=by
 obtain⟨h1,a1,a2,a3⟩:=Ir st
 obtain⟨p,hp⟩:∃p,p=(S.at_+7)/8* 8:=⟨_,rfl⟩
 rw[←hp]at a2
 have hS:yr c.text c.most S.at_ S.out=if p+32≤8* c.text.size then(if vi c.text p 16+vi c.text (p+16) 16=65535 then w8 c.text c.most (vi c.text p 16) (p+32) S.out else .error 700)else .error 700:=by
  rw[hp];rfl
 rw[hS];clear hS
 obtain⟨h2,b1,b2,b3⟩:=xw a2 16 16 rfl (by omega)
 obtain⟨h3,d1,d2,d3⟩:=xw b2 16 16 rfl (by omega)
 obtain⟨n,hn⟩:∃n,n=(vE c 16 {S with at_:=p}).1:=⟨_,rfl⟩
 obtain⟨S2,hS2⟩:∃n,n=(vE c 16 {S with at_:=p}).2:=⟨_,rfl⟩
 obtain⟨m,hm⟩:∃n,n=(vE c 16 S2).1:=⟨_,rfl⟩
 obtain⟨S3,hS3⟩:∃n,n=(vE c 16 S2).2:=⟨_,rfl⟩
 rw[←hn]at b1;rw[←hS2]at b2 d1 d2;rw[←hm]at d1;rw[←hS3]at d2
 have hn16:n<65536:=hn ▸ D4 c _ 16 (by omega)
 have hm16:m<65536:=hm ▸ D4 c _ 16 (by omega)
 have x1:=BU hn16 hm16
 have gf3:=d2.gf
 by_cases h32:p+32≤8* c.text.size
 · have e2:vE c 16 {S with at_:=p}=(vi c.text p 16,{S with at_:=p+16}):=by rw[vE,if_pos (by show p+16≤_;omega)]
   rw[e2]at hn hS2;dsimp only at hn hS2;subst hS2
   have e3:vE c 16 {S with at_:=p+16}=(vi c.text (p+16) 16,{S with at_:=p+16+16}):=by rw[vE,if_pos (by show p+16+16≤_;omega)]
   rw[e3]at hm hS3;dsimp only at hm hS3;subst hS3
   dsimp only at gf3
   rw[he]at gf3
   rw[if_pos h32,←hn,←hm]
   by_cases hx:n+m=65535
   · rw[if_pos hx]
     have c1:(((n^^^m:Nat):Int) !=65535)=false:=tV (by have:=(GZ hn16 hm16).2 hx;omega)
     obtain⟨e',h',ov',S',q1,q2,q3,q4⟩:=Bq n (by omega) n 0 _ h3 ov (by omega) d2 he
     have q1':Lp AP.A [0,2,4] AP.f19L0 [(0,.aC c.f 0),(2,I n),(4,I 0)] h3=some (.exit 0,e',h'):=q1
     clear q1
     refine⟨h',ov',S', ?_,q2,((a3.trans b3).trans d3).trans q3,q4⟩
     refine vZ (fn:=AP.f19) (e:=[]) (vs:=[]) rfl rfl rfl ?_ rfl
     simp only[I]at *
     simp only[AP.f19,go_sem,rR,a1,b1,d1,gf3,x1,c1,q1']
   · rw[if_neg hx]
     have c1:(((n^^^m:Nat):Int) !=65535)=true:=tW (fun e=>hx ((GZ hn16 hm16).1 (by omega)))
     obtain⟨h4,f1,f2,f3⟩:=xN d2
     have he4:(vo 700 {S with at_:=p+16+16}).e=700:=by simp [vo,he]
     have hs:n≤0∨(0<n∧(vo 700 {S with at_:=p+16+16}).e≠0):=by
      by_cases q:0<n
      · exact .inr ⟨q,by rw[he4];decide⟩
      · exact .inl (by omega)
     obtain⟨e',q⟩:=yc f2 n 0 hs
     have q':Lp AP.A [0,2,4] AP.f19L0 [(0,.aC c.f 0),(2,I n),(4,I 0)] h4=some (.exit 0,e',h4):=q
     clear q
     refine⟨h4,ov,_, ?_,f2,((a3.trans b3).trans d3).trans f3,he4,by decide⟩
     refine vZ (fn:=AP.f19) (e:=[]) (vs:=[]) rfl rfl rfl ?_ rfl
     simp only[I]at *
     simp only[AP.f19,go_sem,rR,a1,b1,d1,gf3,x1,c1,f1,q']
 · rw [if_neg h32]
   have he3:S3.e=700:=by
    rw[hS3,hS2]
    unfold vE
    by_cases q1:p+16≤8* c.text.size
    · simp only[if_pos q1]
      rw[if_neg (by omega)];simp [vo,he]
    · simp only[if_neg q1,vo,he,if_true]
      split<;>simp
   have c0:(S3.e==0)=false:=tT (by rw[he3];decide)
   have hs:n≤0∨(0<n∧S3.e≠0):=by
    by_cases q:0<n
    · exact .inr ⟨q,by rw[he3];decide⟩
    · exact .inl (by omega)
   obtain⟨e',q⟩:=yc d2 n 0 hs
   have q':Lp AP.A [0,2,4] AP.f19L0 [(0,.aC c.f 0),(2,I n),(4,I 0)] h3=some (.exit 0,e',h3):=q
   clear q
   refine⟨h3,ov,S3, ?_,d2,(a3.trans b3).trans d3,he3,by decide⟩
   refine vZ (fn:=AP.f19) (e:=[]) (vs:=[]) rfl rfl rfl ?_ rfl
   simp only[I]at *
   simp only[AP.f19,go_sem,rR,a1,b1,d1,gf3,c0,q']
end Ab
