/- Part C1. -/
import Derived.KernelRfl
import Derived.Test.YtbihdlhgfnoejaaGreatDoorAP
set_option linter.unusedSimpArgs false
set_option linter.unusedVariables false
namespace Ab
open Go
theorem QL:type_of% @decide_eq_false:= @decide_eq_false
theorem QM:type_of% @decide_eq_true:= @decide_eq_true
theorem QN:type_of% @Option.map_some:= @Option.map_some
theorem QO:type_of% @Nat.pow_le_pow_right:= @Nat.pow_le_pow_right
theorem QP:type_of% @Option.map_none:= @Option.map_none
theorem QQ:type_of% @Int.eq_ofNat_of_zero_le:= @Int.eq_ofNat_of_zero_le
theorem QR:type_of% @List.length_cons:= @List.length_cons
theorem QS:type_of% @Bool.and_false:= @Bool.and_false
theorem QT:type_of% @List.append_nil:= @List.append_nil
theorem QU:type_of% @List.length_nil:= @List.length_nil
theorem QV:type_of% @List.length_replicate:= @List.length_replicate
theorem QW:type_of% @decide_eq_true_eq:= @decide_eq_true_eq
theorem QX:type_of% @List.drop_zero:= @List.drop_zero
theorem QY:type_of% @List.map_cons:= @List.map_cons
theorem QZ:type_of% @Bool.false_and:= @Bool.false_and
theorem Q0:type_of% @Int.toNat_natCast:= @Int.toNat_natCast
theorem Q1:type_of% @List.getElem?_eq_getElem:= @List.getElem?_eq_getElem
theorem Q2:type_of% @List.map_nil:= @List.map_nil
theorem Q3:type_of% @Nat.mul_one:= @Nat.mul_one
theorem Q5:type_of% @congrArg:= @congrArg
attribute [local congr] wk
def Am (l:List Int) (n:Nat):Nat:=if n=0 then 0 else l.countP (fun x=>x==(n:Int))
def syms (l:List Int) (n:Nat):List Int:=if n=0 then []else l.zipIdx.filterMap fun p=>if p.1=(n:Int)then some (p.2:Int)else none
theorem B5 (p:List Int) (x:Int) (n:Nat):Am (p++[x]) n=Am p n+if n≠0∧x=(n:Int)then 1 else 0:=by
 unfold Am
 by_cases hn:n=0
 · simp [hn]
 · simp [hn,List.countP_append,List.countP_cons]
theorem CK (p:List Int) (x:Int) (n:Nat):syms (p++[x]) n=syms p n++if n≠0∧x=(n:Int)then [(p.length:Int)]else []:=by
 unfold syms
 by_cases hn:n=0
 · simp [hn]
 · simp [hn,List.zipIdx_append,List.filterMap_append]
   split<;>simp_all
theorem Bs (l:List Int) (n:Nat):(syms l n).length≤l.length:=by
 unfold syms
 split
 · simp
 · refine yF (List.length_filterMap_le _ _) ?_
   simp
theorem Bm (l:List Int) (n:Nat):Am l n≤l.length:=by
 unfold Am
 split
 · omega
 · exact List.countP_le_length
structure Bk (h0 h:H) (b:Nat) (C:Nat→AV) (p:List Int):Prop where
 get:h.get b=some (pQ 49 C)
 fl:h.floor=h0.next
 fb:h0.next≤b
 nx:h.floor≤h.next
 low:∀id,id<h0.next→h.get id=h0.get id
 Ku:∀n,n<16→C (16+n)=I (Am p n)
 own:∀n,n<16→pP h (C (32+n)) (ints (syms p n))
 nb:∀n,n<16→(C (32+n)).id?≠some b
 JX:∀n m,n<16→m<16→n≠m→∀i,(C (32+n)).id?=some i→(C (32+m)).id?≠some i
set_option maxHeartbeats 1000000 in
theorem Ht (h0 h : H) (b : Nat) (C : Nat → AV) (p : List Int) (n : Nat) (x : AV) (N : Int) (bk : Bk h0 h b C p) (hn1 : 0 < n) (hn : n < 16) (hp : p.length < 100000) (hel : ∃ a, iy 1 x (I p.length) = some a ∧ ∀ g : H, (∀ id c, h0.get id = some c → g.get id = some c) → cq false 1 a g = some (I n)) (hN : (p.length : Int) < N) :
 ∃h' C',aP (aV AP.A) bL AP.f41L1 [(3,.aH b 0),(10,x),(11,I N),(12,I p.length)] h=some (.normal,[(3,.aH b 0),(10,x),(11,I N),(12,I (p.length+1))],h')∧Bk h0 h' b C' (p++[(n:Int)])∧∀i,(i<16∨i=48)→C' i=C i:=by
 obtain⟨a,ha1,ha2⟩:=hel
 have hlow:∀id c,h0.get id=some c→h.get id=some c:=fun id c q=>by rw[bk.low id (h0.lt id c q)];exact q
 have hld:=ha2 h hlow
 have hx:dH (I n) 16=some n:=mI hn
 have g1:(pQ 49 C)[16+n]?=some (I (Am p n)):=by rw[ik (by omega),bk.Ku n hn]
 have hcl:=Bm p n
 have hw:IntKind.wrap .i64 ((Am p n:Int)+1)=Am p n+1:=wJ (by omega) (by omega)
 have hw2:IntKind.wrap .i64 ((p.length:Int)+1)=p.length+1:=wJ (by omega) (by omega)
 have hfb:h.floor≤b:=by rw[bk.fl];exact bk.fb
 have hs1:(pQ 49 C).set (16+n) (I (Am p n+1))=pQ 49 (w9 C (16+n) (I (Am p n+1))):=wI (by omega) _
 obtain⟨C1,eC1⟩:∃D,D=w9 C (16+n) (I (Am p n+1)):=⟨_,rfl⟩
 rw[←eC1]at hs1
 obtain⟨h1,eh1⟩:∃g,g=(h.set b (pQ 49 C1)).alloc [I p.length]:=⟨_,rfl⟩
 have hbn:b<h.next:=h.lt _ _ bk.get
 have hb1:h1.get b=some (pQ 49 C1):=by
  rw[eh1,H.bc,H.kN,if_neg (by omega),H.eh,if_pos rfl,bk.get];rfl
 have hC1:C1 (32+n)=C (32+n):=by rw[eC1,w9,if_neg (by omega)]
 have hlo1:∀i,i≠b→i≠h.next→h1.get i=h.get i:=fun i q1 q2=>by
  rw[eh1,H.bc,H.kN,if_neg q2,H.eh,if_neg q1]
 have hfl1:h1.floor=h.floor:=by rw[eh1];simp
 have hnx1:h1.next=h.next+1:=by rw[eh1];simp
 have ho1:∀m,m<16→pP h1 (C (32+m)) (ints (syms p m)):=fun m hm=>
  (bk.own m hm).mono hfl1 fun i hi=>hlo1 i (fun e=>bk.nb m hm (e ▸ hi)) (by have:=(bk.own m hm).lt hi;omega)
 have hsl:=Bs p n
 have hnxf:=bk.nx
 obtain⟨v',h2,q1,q2,q3,q4,q5,q6⟩:=(ho1 n hn).app (by omega) (z:=8) (I p.length) rfl (by simp [roomy];omega)
 have g2:(pQ 49 C1)[32+n]?=some (C (32+n)):=by rw[ik (by omega),hC1]
 have hb2:h2.get b=some (pQ 49 C1):=by rw[q5 b (bk.nb n hn) (by omega)];exact hb1
 have hs2:(pQ 49 C1).set (32+n) v'=pQ 49 (w9 C1 (32+n) v'):=wI (by omega) _
 have hfl2:h2.floor≤b:=by have:=bk.fb;have:=bk.fl;omega
 have hv':v'.cells=[v']∧v'.sc=true:=by
  rcases q2 with ⟨rfl,_⟩|⟨id,rfl,_⟩<;>exact⟨rfl,rfl⟩
 have b1:16+n≤48:=by omega
 have b2:32+n≤48:=by omega
 have hal:(h.set b (pQ 49 C1)).get b=some (pQ 49 C1):=by rw[H.eh,if_pos rfl,bk.get];rfl
 have hal2:h1.get h.next=some [I p.length]:=by rw[eh1,H.bc,H.kN,if_pos rfl]
 refine⟨h2.set b (pQ 49 (w9 C1 (32+n) v')),w9 C1 (32+n) v', ?_, ?_,fun i hi=>by rw[w9,if_neg (by omega),eC1,w9,if_neg (by omega)]⟩
 · simp only[I]at *
   simp [AP.f41L1,aP,az,aR,aj,ai,bJ,bh,ha1,hld,hN,hn1,hx,bk.get,g1,hw,hw2,hfb,hs1,eQ,eZ,mV,aW,H.bc,cy.aS,b1,b2,hal,g2,←eh1,hal2,q1,hb2,hs2,hfl2,hv'.1,hv'.2]
 · refine⟨by rw[H.eh,if_pos rfl,hb2];rfl,by simp;rw[q3,hfl1,bk.fl],bk.fb,by simp;omega,fun id hid=> ?_,fun m hm=> ?_,fun m hm=> ?_,fun m hm=> ?_,fun m k hm hk hne i hi=> ?_⟩
   · have hfb':=bk.fb
     have hfl':=bk.fl
     rw[H.eh,if_neg (by omega),q5 id ?_ (by omega),hlo1 id (by omega) (by omega),bk.low id hid]
     intro hi
     rcases bk.own n hn with ⟨e,_⟩|⟨k,e,_,q⟩
     · rw[e]at hi;cases hi
     · rw[e]at hi;cases hi;have:=q.1;omega
   · rw[w9,if_neg (by omega),eC1,w9,B5]
     by_cases e:m=n
     · subst e;rw[if_pos rfl,if_pos ⟨by omega,rfl⟩];simp
     · rw[if_neg (by omega),bk.Ku m hm,if_neg (by omega)];simp
   · have hm32:w9 C1 (32+n) v' (32+m)=if m=n then v' else C (32+m):=by
      simp only[w9]
      by_cases e:m=n
      · rw[if_pos (by omega),if_pos e]
      · rw[if_neg (by omega),if_neg e,eC1,w9,if_neg (by omega)]
     rw[hm32,CK]
     by_cases e:m=n
     · subst e
       rw[if_pos rfl,if_pos ⟨by omega,rfl⟩,su]
       refine q2.mono (by simp) fun i hi=> ?_
       rw[H.eh,if_neg]
       intro e2;subst e2;rw[q6]at hi;cases hi;omega
     · rw[if_neg e,if_neg (by omega),QT]
       refine(ho1 m hm).mono (by simp;omega) fun i hi=> ?_
       have hlt:=(bk.own m hm).lt hi
       rw[H.eh,if_neg (fun (e2:i=b)=>bk.nb m hm (e2 ▸ hi)),q5 i (bk.JX m n hm hn e i hi) (by omega)]
   · have hm32:w9 C1 (32+n) v' (32+m)=if m=n then v' else C (32+m):=by
      simp only[w9]
      by_cases e:m=n
      · rw[if_pos (by omega),if_pos e]
      · rw[if_neg (by omega),if_neg e,eC1,w9,if_neg (by omega)]
     rw[hm32]
     by_cases e:m=n
     · rw[if_pos e,q6];intro e2;cases e2;omega
     · rw[if_neg e];exact bk.nb m hm
   · have hm32:∀m,w9 C1 (32+n) v' (32+m)=if m=n then v' else C (32+m):=fun m=>by
      simp only[w9]
      by_cases e:m=n
      · rw[if_pos (by omega),if_pos e]
      · rw[if_neg (by omega),if_neg e,eC1,w9,if_neg (by omega)]
     rw[hm32]at hi ⊢
     by_cases e:m=n
     · rw[if_pos e,q6]at hi
       cases hi
       rw[if_neg (by omega)]
       intro e2;have:=(bk.own k hk).lt e2;omega
     · rw[if_neg e]at hi
       by_cases e3:k=n
       · rw[if_pos e3,q6];intro e2;cases e2;have:=(bk.own m hm).lt hi;omega
       · rw[if_neg e3];exact bk.JX m k hm hk hne i hi
set_option maxHeartbeats 1000000 in
theorem Hu (h0 h:H) (b:Nat) (C:Nat→AV) (p:List Int) (x:AV) (N:Int) (bk:Bk h0 h b C p) (hp:p.length<100000) (hel:∃a,iy 1 x (I p.length)=some a∧∀g:H,(∀id c,h0.get id=some c→g.get id=some c)→cq false 1 a g=some (I 0)) (hN:(p.length:Int)<N):
 aP (aV AP.A) bL AP.f41L1 [(3,.aH b 0),(10,x),(11,I N),(12,I p.length)] h=some (.normal,[(3,.aH b 0),(10,x),(11,I N),(12,I (p.length+1))],h)∧Bk h0 h b C (p++[0]):=by
 obtain⟨a,ha1,ha2⟩:=hel
 have hlow:∀id c,h0.get id=some c→h.get id=some c:=fun id c q=>by rw[bk.low id (h0.lt id c q)];exact q
 have hld:=ha2 h hlow
 have hw2:IntKind.wrap .i64 ((p.length:Int)+1)=p.length+1:=wJ (by omega) (by omega)
 refine⟨?_,⟨bk.get,bk.fl,bk.fb,bk.nx,bk.low,fun n hn=> ?_,fun n hn=> ?_,bk.nb,bk.JX⟩⟩
 · simp only[I]at *
   simp [AP.f41L1,aP,az,aR,aj,ai,ha1,hld,hN,hw2]
 · rw[bk.Ku n hn,B5,if_neg (by omega)];simp
 · have:=bk.own n hn
   rw[CK,if_neg (by omega),QT];exact this
theorem Ep (h0 : H) (b : Nat) (x : AV) (l : List Int) (hl : l.length < 100000) (hr : ∀ y ∈ l, 0 ≤ y ∧ y < 16) (hx : Rd h0 x (ints l)) : ∀ (m : Nat) (p q : List Int) (C : Nat → AV) (h : H), l = p ++ q → q.length = m → Bk h0 h b C p →
 ∃h' C' e',Lp AP.A [3,10,11,12] AP.f41L1 [(3,.aH b 0),(10,x),(11,I l.length),(12,I p.length)] h=some (.exit 0,e',h')∧look e' 3=.aH b 0∧Bk h0 h' b C' l∧∀i,(i<16∨i=48)→C' i=C i
 | 0, p, [], C, h, hpq, _, bk => by
   refine⟨h,C, ?_⟩
   have:l=p:=by simpa using hpq
   subst this
   refine⟨_,wh (e':=[(3,.aH b 0),(10,x),(11,I l.length),(12,I l.length),(13,.bool false)]) ?_,rfl,bk,fun _ _=>rfl⟩
   simp [AP.f41L1,aP,az,aj,ai,I]
 | m + 1, p, y :: q, C, h, hpq, hm, bk => by
   have hmem:y∈l:=by rw[hpq];simp
   obtain⟨h1,h2⟩:=hr y hmem
   have hget:l[p.length]?=some y:=by rw[hpq];simp
   have hel:=hx.elem (vP hget)
   have hlen:p.length<l.length:=(xW.1 hget).1
   obtain⟨n,rfl⟩:=QQ h1
   have next:∃h' C',aP (aV AP.A) bL AP.f41L1 [(3,.aH b 0),(10,x),(11,I l.length),(12,I p.length)] h=some (.normal,[(3,.aH b 0),(10,x),(11,I l.length),(12,I (p.length+1))],h')∧Bk h0 h' b C' (p++[(n:Int)])∧∀i,(i<16∨i=48)→C' i=C i:=by
    by_cases hn:n=0
    · subst hn
      have z:=Hu h0 h b C p x l.length bk (by omega) hel (by omega)
      exact⟨h,C,z.1,z.2,fun _ _=>rfl⟩
    · exact Ht h0 h b C p n x l.length bk (by omega) (by omega) (by omega) hel (by omega)
   obtain⟨h',C',s1,bk',hC'⟩:=next
   have ih:=Ep h0 b x l hl hr hx m (p++[(n:Int)]) q C' h' (by rw[hpq];simp) (by simpa using hm) bk'
   obtain⟨h2,C2,e2,k1,k2,k3,k4⟩:=ih
   exact⟨h2,C2,e2,wj s1 (by simpa using k1),k2,k3,fun i hi=>by rw[k4 i hi,hC' i hi]⟩
def yU (l:List Int):Nat→Int
 |0=>0
 |n+1=>(yU l n+Am l n)* 2
def zd (l:List Int):Nat→Int
 |0=>1
 |n+1=>zd l n* 2-Am l (n+1)
theorem Cu {l:List Int} (hl:l.length<100000) (n:Nat):0≤yU l n∧yU l n≤200000* 2^n-200000:=by
 induction n with
 |zero=>simp [yU]
 |succ n ih=>have:=Bm l n;simp only[yU,Int.pow_succ];omega
theorem FD {l:List Int} (hl:l.length<100000) (n:Nat): -(200000* 2^n-100000)≤zd l n∧zd l n≤2^n:=by
 induction n with
 |zero=>simp [zd]
 |succ n ih=>have:=Bm l (n+1);simp only[zd,Int.pow_succ];omega
theorem CA {m:Nat} (hm:m≤15):(2:Int)^m≤32768:=by
 have h:(2:Nat)^m≤2^15:=QO (by omega) hm
 have h2:((2^m:Nat):Int)≤((2^15:Nat):Int):=Int.ofNat_le.2 h
 simpa using h2
theorem Bk.put {h0 h:H} {b:Nat} {C:Nat→AV} {p:List Int} (bk:Bk h0 h b C p) {i:Nat} (hi:i<16∨i=48) (v:AV):Bk h0 (h.set b (pQ 49 (w9 C i v))) b (w9 C i v) p:=by
 have c:∀j,16≤j→j<48→w9 C i v j=C j:=fun j h1 h2=>by rw[w9,if_neg (by omega)]
 have hbn:b<h.next:=h.lt _ _ bk.get
 refine⟨by rw[H.eh,if_pos rfl,bk.get];rfl,by simp [bk.fl],bk.fb,by simp [bk.nx],fun id hid=> ?_,fun n hn=> ?_,fun n hn=> ?_,fun n hn=> ?_,fun n m hn hm hne k hk=> ?_⟩
 · have:=bk.fb
   rw[H.eh,if_neg (by omega)];exact bk.low id hid
 · rw[c _ (by omega) (by omega)];exact bk.Ku n hn
 · rw[c _ (by omega) (by omega)]
   refine(bk.own n hn).mono (by simp) fun k hk=> ?_
   rw[H.eh,if_neg];intro (e:k=b);exact bk.nb n hn (e ▸ hk)
 · rw[c _ (by omega) (by omega)];exact bk.nb n hn
 · rw[c _ (by omega) (by omega)]at hk ⊢;exact bk.JX n m hn hm hne k hk
set_option maxHeartbeats 1000000 in
theorem Gp (h0 h:H) (b:Nat) (C:Nat→AV) (l:List Int) (m:Nat) (bk:Bk h0 h b C l) (hl:l.length<100000) (hm:m<15) (hc:C 48=I (zd l m)):
 aP (aV AP.A) bL AP.f41L0 [(3,.aH b 0),(6,I (yU l m)),(7,I (m+1))] h=
  some (.normal,[(3,.aH b 0),(6,I (yU l (m+1))),(7,I (m+1+1))],(h.set b (pQ 49 (w9 C (m+1) (I (yU l (m+1)))))).set b (pQ 49 (w9 (w9 C (m+1) (I (yU l (m+1)))) 48 (I (zd l (m+1)))))):=by
 have hp:=CA (m:=m) (by omega)
 have hf:=Cu hl m
 have hlf:=FD hl m
 have c1:=Bm l m
 have c2:=Bm l (m+1)
 have w1:IntKind.wrap .i64 (m:Int)=m:=wJ (by omega) (by omega)
 have w2:IntKind.wrap .i64 (yU l m+Am l m)=yU l m+Am l m:=wJ (by omega) (by omega)
 have w3:IntKind.wrap .i64 ((yU l m+Am l m)* 2)=yU l (m+1):=wJ (by omega) (by omega)
 have w4:IntKind.wrap .i64 (zd l m* 2)=zd l m* 2:=wJ (by omega) (by omega)
 have w5:IntKind.wrap .i64 (zd l m* 2-Am l (m+1))=zd l (m+1):=wJ (by omega) (by omega)
 have w6:IntKind.wrap .i64 ((m:Int)+1+1)=m+1+1:=wJ (by omega) (by omega)
 have x1:dH (I m) 16=some m:=mI (by omega)
 have x2:dH (I (m+1)) 16=some (m+1):=mI (i:=m+1) (by omega)
 have g1:(pQ 49 C)[16+m]?=some (I (Am l m)):=by rw[ik (by omega),bk.Ku m (by omega)]
 obtain⟨C1,e1⟩:∃D,D=w9 C (m+1) (I (yU l (m+1))):=⟨_,rfl⟩
 have s1:(pQ 49 C).set (m+1) (I (yU l (m+1)))=pQ 49 C1:=by rw[e1];exact wI (by omega) _
 have g2:(pQ 49 C1)[16+(m+1)]?=some (I (Am l (m+1))):=by rw[ik (by omega),e1,w9,if_neg (by omega),bk.Ku (m+1) (by omega)]
 have g3:(pQ 49 C1)[48]?=some (I (zd l m)):=by rw[ik (by omega),e1,w9,if_neg (by omega),hc]
 have g4:C1 48=I (zd l m):=by rw[e1,w9,if_neg (by omega),hc]
 have s2:(pQ 49 C1).set 48 (I (zd l (m+1)))=pQ 49 (w9 C1 48 (I (zd l (m+1)))):=wI (by omega) _
 have hfb:h.floor≤b:=by rw[bk.fl];exact bk.fb
 have ge:(h.set b (pQ 49 C1)).get b=some (pQ 49 C1):=by rw[H.eh,if_pos rfl,bk.get];rfl
 have b1:m+1≤48:=by omega
 have b3:m≤47:=by omega
 have b4:m≤14:=by omega
 have b2:(m:Int)+1≤15:=by omega
 rw[←e1]
 simp only[I]at *
 simp [AP.f41L0,aP,az,aR,aj,ai,bk.get,w1,w2,w3,w4,w5,w6,x1,x2,g1,g2,g3,g4,s1,s2,hfb,ge,b1,b2,b3,b4]
theorem Dv (h0:H) (b:Nat) (l:List Int) (hl:l.length<100000):∀(k m:Nat) (C:Nat→AV) (h:H),m+k=15→Bk h0 h b C l→C 48=I (zd l m)→(∀i,i≤m→C i=I (yU l i))→
 ∃h' C' e',Lp AP.A [3,6,7] AP.f41L0 [(3,.aH b 0),(6,I (yU l m)),(7,I (m+1))] h=some (.exit 2,e',h')∧look e' 3=.aH b 0∧Bk h0 h' b C' l∧C' 48=I (zd l 15)∧∀i,i≤15→C' i=I (yU l i)
 | 0, m, C, h, hk, bk, hc, hf => by
   obtain rfl:m=15:=by omega
   refine⟨h,C,[(3,.aH b 0),(6,I (yU l 15)),(7,I 16),(45,.bool false)],wh ?_,rfl,bk,hc,hf⟩
   have e:((15:Nat):Int)+1=16:=rfl
   rw[e]
   simp [AP.f41L0,aP,az,aj,ai,I]
 | k + 1, m, C, h, hk, bk, hc, hf => by
   have st:=Gp h0 h b C l m bk hl (by omega) hc
   have bk1:=(bk.put (i:=m+1) (.inl (by omega)) (I (yU l (m+1)))).put (i:=48) (.inr rfl) (I (zd l (m+1)))
   obtain⟨h',C',e',k1,k2⟩:=Dv h0 b l hl k (m+1) _ _ (by omega) bk1 (by simp [w9]) (fun i hi=>by
    rw[w9,if_neg (by omega),w9]
    by_cases e:i=m+1
    · rw[if_pos e,e]
    · rw[if_neg e];exact hf i (by omega))
   exact⟨h',C',e',wj st (by simpa using k1),k2⟩
def DJ (l:List AV):AV:=if l=[]then .aT else .aZ false l 0 l.length 1
def zW (l:List Int):Nat→AV:=fun i=>if i<16 then I (yU l i)else if i<32 then I (Am l (i-16))else if i<48 then DJ (ints (syms l (i-32)))else I (zd l 15)
def y8 (l:List Int):AV:=.aO (pQ 49 (zW l)) 0
theorem GN {f:AV→Option AV} {C D:Nat→AV}:∀(n:Nat),(∀i,i<n→f (C i)=some (D i))→gX f (pQ n C)=some (pQ n D):=by
 have key:∀(l:List Nat),(∀i∈l,f (C i)=some (D i))→gX f (l.map C)=some (l.map D):=by
  intro l
  induction l with
  |nil=>intro _;rfl
  |cons i l ih=>intro h;simp [gX,h i (by simp),ih (fun j hj=>h j (by simp [hj]))]
 exact fun n h=>key _ fun i hi=>h i (List.mem_range.1 hi)
theorem zJ (g:Nat→Option (List AV)) (fl n:Nat) (t:Bool):∀l:List Int,gX (snap g fl (n+1) t) (ints l)=some (ints l)
 |[]=>rfl
 | x :: l => by
   have:=zJ g fl n t l
   simp only[ints,QY,gX]at this ⊢
   rw[this];rfl
theorem FP {h:H} {v:AV} {cs:List AV} {fl n:Nat} (o:pP h v cs) (hf:fl≤h.floor) (hm:gX (snap h.get fl (n+1) false) cs=some cs):snap h.get fl (n+2) false v=some (DJ cs):=by
 rcases o with ⟨rfl,rfl⟩|⟨id,rfl,hg,hfl,hne⟩
 · rfl
 · have h1:¬id<fl:=by omega
   simp only[snap,if_neg h1,hg,xX,ym,Q3,QX,List.take_length,ya,if_true,hm,DJ,if_neg hne]
def C0:Nat→AV:=fun i=>if i<32 then I 0 else if i<48 then .aT else I 1
set_option maxHeartbeats 1000000 in
theorem BR (h : H) (x : AV) (l : List Int) (hl : l.length < 100000) (hr : ∀ y ∈ l, 0 ≤ y ∧ y < 16) (hx : Rd h x (ints l)) : aV AP.A 41 [x] h = some (y8 l, h) := by
 have hb0:Bk h (h.eY.alloc (pQ 49 C0)) h.next C0 []:=by
  refine⟨by simp [H.bc],by simp,ya _,by simp,fun id hid=> ?_,fun n hn=> ?_,fun n hn=> ?_,fun n hn=> ?_,fun n m hn hm hne i hi=> ?_⟩
  · rw[H.bc,if_neg (by simp;omega)];rfl
  · simp only[C0,Am,List.countP_nil];rw[if_pos (by omega)];simp
  · simp only[C0];rw[if_neg (by omega),if_pos (by omega)]
    exact .inl ⟨rfl,by unfold syms;split<;>rfl⟩
  · simp only[C0];rw[if_neg (by omega),if_pos (by omega)];exact nofun
  · simp only[C0]at hi;rw[if_neg (by omega),if_pos (by omega)]at hi;cases hi
 obtain⟨h1,D1,e1,k1,k2,bk1,k3⟩:=Ep h h.next x l hl hr hx l.length [] l C0 _ rfl rfl hb0
 obtain⟨h2,D2,e2,k4,k5,bk2,k6,k7⟩:=Dv h h.next l hl 15 0 D1 h1 rfl bk1 (by rw[k3 48 (.inr rfl)];rfl) (fun i hi=>by
  obtain rfl:i=0:=by omega
  rw[k3 0 (.inl (by omega))];rfl)
 have kx:aP (aV AP.A) bL AP.f41.body (params 0 [x]) h.eY=some (.ret,[(2,.aH h.next 0)],h2):=by
  unfold AP.f41
  refine xD (e1:=[(0,x)]) (h1:=h.eY) rfl ?_
  refine xD (e1:=[(0,x),(3,.aH h.next 0)]) (h1:=h.eY.alloc (pQ 49 C0)) rfl ?_
  refine xD (e1:=[(3,.aH h.next 0)]) (h1:=h1) ?_ ?_
  · refine xD (e1:=[(3,.aH h.next 0),(10,x),(11,I l.length),(12,I 0)]) (h1:=h.eY.alloc (pQ 49 C0)) ?_ ?_
    · simp [aP,az,aj,ai,hx.len,I]
    · have:=tg (k:=[3]) k1
      simp only[uH,uY,k2]at this
      exact this
  refine xD (e1:=[(3,.aH h.next 0),(6,I 0)]) (h1:=h1) rfl ?_
  refine xD (e1:=[(3,.aH h.next 0)]) (h1:=h2) ?_ ?_
  · refine xD (e1:=[(3,.aH h.next 0),(6,I 0),(7,I 1)]) (h1:=h1) rfl ?_
    have:=tg (k:=[3]) k4
    simp only[uH,uY,k5]at this
    exact this
  exact xD (e1:=[(2,.aH h.next 0)]) (h1:=h2) rfl rfl
 have hsn:snap h2.get h.next 16 true (.aH h.next 0)=some (y8 l):=by
  have hm:gX (snap h2.get h.next 15 false) (pQ 49 D2)=some (pQ 49 (zW l)):=by
   refine GN 49 fun i hi=> ?_
   by_cases c1:i<16
   · rw[k7 i (by omega),zW,if_pos c1];rfl
   by_cases c2:i<32
   · have:=bk2.Ku (i-16) (by omega)
     rw[show 16+(i-16)=i by omega]at this
     rw[this,zW,if_neg c1,if_pos c2];rfl
   by_cases c3:i<48
   · have:=bk2.own (i-32) (by omega)
     rw[show 32+(i-32)=i by omega]at this
     rw[zW,if_neg c1,if_neg c2,if_pos c3]
     exact FP (n:=13) this (by rw[bk2.fl];exact ya _) (zJ _ _ _ _ _)
   · obtain rfl:i=48:=by omega
     rw[k6,zW,if_neg c1,if_neg c2,if_neg c3];rfl
  simp only[snap,if_neg (Nat.lt_irrefl _),bk2.get,xX,hm,y8]
 exact wX (fn:=AP.f41) rfl rfl rfl kx rfl hsn
theorem zM (w n:Nat) (h:n<2^w):(BitVec.ofInt w (n:Int)).toNat=n:=by
 rw[BitVec.ofInt_natCast,BitVec.toNat_ofNat,Nat.mod_eq_of_lt h]
theorem yJ {n:Nat} (h:n<9223372036854775808):IntKind.wrap .i64 (n:Int)=n:=wJ (by omega) (by omega)
theorem wrap_u8 {n:Nat} (h:n<256):IntKind.wrap .u8 (n:Int)=n:=by
 have e:IntKind.wrap .u8 (n:Int)=(n:Int)%256:=by simp [IntKind.wrap,IntKind.bits,IntKind.signed]
 rw[e];omega
theorem C3 {a b:Nat} (ha:a<9223372036854775808) (hb:b<9223372036854775808):bits .or .i64 (a:Int) (b:Int)=((a|||b:Nat):Int):=by
 have h1:a<2^63:=by simpa using ha
 have h2:b<2^63:=by simpa using hb
 have h3:a|||b<2^63:=Nat.or_lt_two_pow h1 h2
 show IntKind.wrap .i64 (((BitVec.ofInt 64 (a:Int)|||BitVec.ofInt 64 (b:Int)).toNat:Nat):Int)=_
 rw[BitVec.toNat_or,zM 64 a (by omega),zM 64 b (by omega)]
 exact yJ (by simpa using h3)
theorem D6 {a b:Nat} (ha:a<256) (hb:b<256):bits .and .u8 (a:Int) (b:Int)=((a&&&b:Nat):Int):=by
 have h3:a&&&b<2^8:=Nat.and_lt_two_pow _ (by simpa using hb)
 show IntKind.wrap .u8 (((BitVec.ofInt 8 (a:Int)&&&BitVec.ofInt 8 (b:Int)).toNat:Nat):Int)=_
 rw[BitVec.toNat_and,zM 8 a (by omega),zM 8 b (by omega)]
 exact wrap_u8 (by simpa using h3)
theorem It {x b i:Nat} (hx:x<2^i):x|||b* 2^i=x+b* 2^i:=by
 have:=Nat.two_pow_add_eq_or_of_lt hx b
 rw[Nat.or_comm,Nat.mul_comm b,←this,Nat.add_comm]
@[simp] theorem HE {k j : IntKind} {a b : Int} : bH .shr (.int k a) (.int j b) = rL .shr k a b := rfl
@[simp] theorem HD {k j : IntKind} {a b : Int} : bH .shl (.int k a) (.int j b) = rL .shl k a b := rfl
attribute [go_sem] HD HE
theorem IH {a s:Nat} (hs:s≤8):rL .shr .u8 (a:Int) (s:Int)=some (.int .u8 ((a/2^s:Nat):Int)):=by
 unfold rL
 rw[if_neg (by omega)]
 simp only[IntKind.bits,Q0,Nat.min_eq_left hs]
 congr 2
 rw[Int.fdiv_eq_ediv_of_nonneg _ (Int.pow_nonneg (by omega))]
 simp
theorem Ay {a s:Nat} (hs:s≤64) (h:a* 2^s<9223372036854775808):rL .shl .i64 (a:Int) (s:Int)=some (.int .i64 ((a* 2^s:Nat):Int)):=by
 unfold rL
 rw[if_neg (by omega)]
 simp only[IntKind.bits,Q0,Nat.min_eq_left hs]
 congr 2
 rw[←yJ h];simp
def zo (s:ByteArray) (p:Nat):Nat:=((s[p/8]?).map (·.toNat)).getD 0/2^(p%8)%2
theorem Dc (s:ByteArray) (p:Nat):zo s p≤1:=by unfold zo;omega
def yN (s:ByteArray) (p:Nat):Nat→Nat
 |0=>0
 |n+1=>yN s p n+zo s (p+n)* 2^n
theorem zg (s:ByteArray) (p:Nat):∀n,yN s p n<2^n
 |0=>by simp [yN]
 | n + 1 => by
   have h:=zg s p n
   have b:=Dc s (p+n)
   have hb:zo s (p+n)=0∨zo s (p+n)=1:=by omega
   rw[yN,Nat.pow_succ]
   rcases hb with hb|hb<;>rw[hb]<;>omega
theorem FV (l:List Int) (n:Nat):(syms l n).length=Am l n:=by
 have key:∀(l:List Int) (k:Nat),((l.zipIdx k).filterMap fun p=>if p.1=(n:Int)then some (p.2:Int)else none).length=l.countP (fun x=>x==(n:Int)):=by
  intro l
  induction l with
  |nil=>intro k;rfl
  | cons x l ih =>
    intro k
    rw[List.zipIdx_cons,List.filterMap_cons,List.countP_cons]
    by_cases h:x=(n:Int)
    · simp only[if_pos h,QR,ih (k+1)];simp [h]
    · simp only[if_neg h,ih (k+1)];simp [h]
 unfold syms Am
 split
 · rfl
 · exact key l 0
def Ap (l:List Int) (n:Nat) (v:Int):Option Int:=if yU l n≤v then(syms l n)[(v-yU l n).toNat]? else none
set_option maxHeartbeats 1000000 in
theorem Ly (h:H) (l:List Int) (hl:l.length<100000) (n:Nat) (hn1:1≤n) (hn:n≤15) (v:Int) (hv0:0≤v) (hv:v<1000000):
 aV AP.A 72 [y8 l,I n,I v] h=some (match Ap l n v with|some y=>.cf [I y,.bool true]|none=>.cf [I 0,.bool false],h):=by
 have hp:=CA hn
 have hf:=Cu hl n
 have hc:=Bm l n
 have hsc:=FV l n
 have c1:¬((n:Int)<1):=by omega
 have c2:¬(15:Int)<n:=by omega
 have a1:dH (I n) 16=some n:=mI (by omega)
 have e1:zW l n=I (yU l n):=by rw[zW,if_pos (by omega)]
 have e2:zW l (16+n)=I (Am l n):=by rw[zW,if_neg (by omega),if_pos (by omega),show 16+n-16=n by omega]
 have e3:zW l (32+n)=DJ (ints (syms l n)):=by rw[zW,if_neg (by omega),if_neg (by omega),if_pos (by omega),show 32+n-32=n by omega]
 have g1:(pQ 49 (zW l))[n]?=some (I (yU l n)):=by rw[ik (by omega),e1]
 have g2:(pQ 49 (zW l))[16+n]?=some (I (Am l n)):=by rw[ik (by omega),e2]
 have g3:(pQ 49 (zW l))[32+n]?=some (DJ (ints (syms l n))):=by rw[ik (by omega),e3]
 have hb:y8 l=.aO (pQ 49 (zW l)) 0:=rfl
 rw[hb]
 clear hb e1 e2 e3
 generalize pQ 49 (zW l)=T at g1 g2 g3 ⊢
 by_cases k1:v<yU l n
 · have:Ap l n v=none:=by rw[Ap,if_neg (by omega)]
   rw[this]
   refine wF (fn:=AP.f72) (e:=[(6,I 0),(7,.bool false)]) rfl rfl rfl ?_ rfl
   simp only[I]at *
   simp only[AP.f72,go_sem,QL c1,QL c2,a1,g1,QM k1]
 have w1:IntKind.wrap .i64 (v-yU l n)=v-yU l n:=wJ (by omega) (by omega)
 by_cases k2:(Am l n:Int)≤v-yU l n
 · have:Ap l n v=none:=by rw[Ap,if_pos (by omega),List.getElem?_eq_none (by omega)]
   rw[this]
   refine wF (fn:=AP.f72) (e:=[(6,I 0),(7,.bool false)]) rfl rfl rfl ?_ rfl
   simp only[I]at *
   simp only[AP.f72,go_sem,QL c1,QL c2,a1,g1,g2,QL k1,w1,QM k2]
 · obtain⟨i,hi⟩:∃i:Nat,v-yU l n=i:=QQ (by omega)
   have hil:i<(syms l n).length:=by omega
   obtain⟨y,hy⟩:∃y,(syms l n)[i]?=some y:=⟨_,Q1 hil⟩
   have:Ap l n v=some y:=by rw[Ap,if_pos (by omega),hi,Q0,hy]
   rw[this]
   have hne:ints (syms l n)≠[]:=by intro e;have:=Q5 List.length e;simp at this;simp [this]at hil
   have hs:DJ (ints (syms l n))=.aZ false (ints (syms l n)) 0 (ints (syms l n)).length 1:=by rw[DJ,if_neg hne]
   rw[hs]at g3
   have a2:iy 1 (.aZ false (ints (syms l n)) 0 (ints (syms l n)).length 1) (I i)=some (.aO (ints (syms l n)) i):=by
    simp [iy,mI (show i<(syms l n).length from hil)]
   have g4:=vP hy
   rw[hi]at w1 k2
   refine wF (fn:=AP.f72) (e:=[(6,I y),(7,.bool true)]) rfl rfl rfl ?_ rfl
   simp only[I]at *
   simp only[AP.f72,go_sem,QL c1,QL c2,a1,g1,g2,QL k1,hi,w1,QL k2,g3,a2,g4]
attribute [local congr] wk
theorem zN (a b:Nat):Int.tdiv (a:Int) (b:Int)=((a/b:Nat):Int):=by simp
theorem A4 (a b:Nat):Int.tmod (a:Int) (b:Int)=((a%b:Nat):Int):=by rw[Int.tmod_eq_emod_of_nonneg (by omega)];simp
theorem GD {s:ByteArray} {i:Nat} (h:i<s.size):∃b:UInt8,s[i]?=some b:=⟨s[i],by simp [h]⟩
set_option maxHeartbeats 1000000 in
theorem H8 (h:H) (r:Nat) (s:ByteArray) (p x i n:Nat) (hg:h.get r=some [.str s,I p]) (hf:h.floor≤r) (hp:p<8* s.size) (hs:s.size<1125899906842624) (hx:x<2^i) (hi:i<n) (hn:n≤16):
 aP (aV AP.A) bL AP.f58L0 [(0,.aH r 0),(6,I x),(32,I n),(33,I i)] h=some (.normal,[(0,.aH r 0),(6,I (x+zo s p* 2^i:Nat)),(32,I n),(33,I (i+1:Nat))],h.set r [.str s,I (p+1:Nat)]):=by
 obtain⟨b,hb⟩:=GD (s:=s) (i:=p/8) (by omega)
 have hb8:b.toNat<256:=b.toNat_lt
 have hbit:zo s p=b.toNat/2^(p%8)%2:=by simp [zo,hb]
 have t1:Int.tdiv (p:Int) 8=((p/8:Nat):Int):=zN p 8
 have t2:Int.tmod (p:Int) 8=((p%8:Nat):Int):=A4 p 8
 have w1:IntKind.wrap .i64 ((p/8:Nat):Int)=((p/8:Nat):Int):=yJ (by omega)
 have a1:dH (I (p/8:Nat)) s.size=some (p/8):=mI (by omega)
 have s1:rL .shr .u8 (b.toNat:Int) ((p%8:Nat):Int)=some (.int .u8 ((b.toNat/2^(p%8):Nat):Int)):=IH (by omega)
 have hlt:b.toNat/2^(p%8)<256:=Nat.lt_of_le_of_lt (Nat.div_le_self _ _) hb8
 have n1:bits .and .u8 ((b.toNat/2^(p%8):Nat):Int) 1=((zo s p:Nat):Int):=by
  have:=D6 (b:=1) hlt (by omega)
  rw[Nat.and_one_is_mod]at this
  rw[hbit];exact this
 have hbl:=Dc s p
 have w2:IntKind.wrap .i64 ((zo s p:Nat):Int)=((zo s p:Nat):Int):=yJ (by omega)
 have hpow:(2:Nat)^i≤2^16:=QO (by omega) (by omega)
 have hmul:zo s p* 2^i≤2^i:=by
  have:=yg (2^i) hbl;simpa using this
 have s2:rL .shl .i64 ((zo s p:Nat):Int) (i:Int)=some (.int .i64 ((zo s p* 2^i:Nat):Int)):=Ay (by omega) (by omega)
 have o1:bits .or .i64 (x:Int) ((zo s p* 2^i:Nat):Int)=((x+zo s p* 2^i:Nat):Int):=by
  rw[C3 (by omega) (by omega),It hx]
 have w3:IntKind.wrap .i64 ((p:Int)+1)=((p+1:Nat):Int):=yJ (n:=p+1) (by omega)
 have w4:IntKind.wrap .i64 ((i:Int)+1)=((i+1:Nat):Int):=yJ (n:=i+1) (by omega)
 generalize hB:zo s p=B at *
 generalize hD:b.toNat/2^(p%8)=D at *
 generalize hE:p/8=E at *
 generalize hF:p%8=F at *
 generalize hO:x+B* 2^i=O at *
 generalize hM:B* 2^i=W at *
 simp only[I]at *
 simp [AP.f58L0,aP,az,aR,aj,ai,hg,u9,ve,t1,t2,w1,oD,a1,hb,s1,n1,w2,s2,o1,w3,w4,hi,hf]
theorem Fq (r:Nat) (s:ByteArray) (p n:Nat) (hs:s.size<1125899906842624) (hp:p+n≤8* s.size) (hn:n≤16):∀(k i:Nat) (h:H),i+k=n→h.get r=some [.str s,I (p+i:Nat)]→h.floor≤r→
 ∃e',Lp AP.A [0,6,32,33] AP.f58L0 [(0,.aH r 0),(6,I (yN s p i:Nat)),(32,I n),(33,I i)] h=some (.exit 1,e',h.set r [.str s,I (p+n:Nat)])∧look e' 6=I (yN s p n:Nat)
 | 0, i, h, hk, hg, hf => by
   obtain rfl:i=n:=by omega
   refine⟨[(0,.aH r 0),(6,I (yN s p i:Nat)),(32,I i),(33,I i),(34,.bool false)],wh ?_,rfl⟩
   rw[H.kR hg]
   simp [AP.f58L0,aP,az,aj,ai,I]
 | k + 1, i, h, hk, hg, hf => by
   have st:=H8 h r s (p+i) (yN s p i) i n hg hf (by omega) hs (zg s p i) (by omega) hn
   obtain⟨e',k1,k2⟩:=Fq r s p n hs hp hn k (i+1) (h.set r [.str s,I (p+i+1:Nat)]) (by omega) (by rw[H.eh,if_pos rfl,hg];rfl) (by simpa using hf)
   rw[H.set_set]at k1
   exact⟨e',wj st k1,k2⟩
theorem MG (h:H) (r:Nat) (s:ByteArray) (p n:Nat) (hg:h.get r=some [.str s,I p]) (hf:h.floor≤r) (hs:s.size<1125899906842624) (hp:p+n≤8* s.size) (hn:n≤16):
 aV AP.A 58 [.aH r 0,I n] h=some (.cf [I (yN s p n:Nat),I 0],h.set r [.str s,I (p+n:Nat)]):=by
 obtain⟨e',k1,k2⟩:=Fq r s p n hs hp hn n 0 h (by omega) hg hf
 have l1:=tg (k:=[6]) k1
 simp only[uH,uY,k2]at l1
 have c0:¬(n:Int)<0:=by omega
 have c1:¬(16:Int)<n:=by omega
 have w1:IntKind.wrap .i64 (8* (s.size:Int))=((8* s.size:Nat):Int):=yJ (n:=8* s.size) (by omega)
 have w2:IntKind.wrap .i64 (((8* s.size:Nat):Int)-p)=((8* s.size-p:Nat):Int):=by
  rw[←Int.ofNat_sub (by omega)];exact yJ (by omega)
 have c2:¬((8* s.size-p:Nat):Int)<n:=by omega
 refine wF (fn:=AP.f58) (e:=[(4,I (yN s p n:Nat)),(5,I 0)]) rfl rfl rfl ?_ rfl
 unfold AP.f58
 refine xD (e1:=[(0,.aH r 0),(1,I n)]) (h1:=h) rfl ?_
 refine xD (e1:=[(0,.aH r 0),(1,I n)]) (h1:=h) ?_ ?_
 · generalize hM:8* s.size-p=W at *
   generalize hM2:8* s.size=W2 at *
   simp only[I]at *
   simp [aP,az,aR,aj,ai,gW,rP,hg,j6,w1,w2,c0,c1,c2]
 refine xD (e1:=[(0,.aH r 0),(1,I n),(6,I 0)]) (h1:=h) rfl ?_
 refine xD (e1:=[(6,I (yN s p n:Nat))]) (h1:=h.set r [.str s,I (p+n:Nat)]) ?_ ?_
 · refine xD (e1:=[(0,.aH r 0),(6,I 0),(32,I n),(33,I 0)]) (h1:=h) rfl ?_
   exact l1
 exact xD (e1:=[(4,I (yN s p n:Nat)),(5,I 0)]) (h1:=h.set r [.str s,I (p+n:Nat)]) rfl rfl
theorem Jz (h:H) (r:Nat) (s:ByteArray) (p n:Nat) (hg:h.get r=some [.str s,I p]) (hs:s.size<1125899906842624) (hp0:p≤8* s.size) (hp:8* s.size<p+n) (hn:n≤16):
 aV AP.A 58 [.aH r 0,I n] h=some (.cf [I 0,I 101],h):=by
 have c0:¬(n:Int)<0:=by omega
 have c1:¬(16:Int)<n:=by omega
 have w1:IntKind.wrap .i64 (8* (s.size:Int))=((8* s.size:Nat):Int):=yJ (n:=8* s.size) (by omega)
 have w2:IntKind.wrap .i64 (((8* s.size:Nat):Int)-p)=((8* s.size-p:Nat):Int):=by
  rw[←Int.ofNat_sub (by omega)];exact yJ (by omega)
 have c2:((8* s.size-p:Nat):Int)<n:=by omega
 refine wF (fn:=AP.f58) (e:=[(4,I 0),(5,I 101)]) rfl rfl rfl ?_ rfl
 unfold AP.f58
 refine xD (e1:=[(0,.aH r 0),(1,I n)]) (h1:=h) rfl ?_
 refine xE ?_
 generalize hM:8* s.size-p=W at *
 generalize hM2:8* s.size=W2 at *
 simp only[I]at *
 simp [aP,az,aR,aj,ai,gW,rP,hg,j6,w1,w2,c0,c1,c2]
attribute [local congr] wk
theorem zh {A:bw} {f:Nat} {fn:gI} {args:List AV} {h h2:H} {e:Env} {vs:List AV} (hf:A f=some fn) (hnp:args.length=fn.np) (hp:fn.pure=false)
 (hx:aP (aV A) bL fn.body (params 0 args) h=some (.normal,e,h2)) (hres:di e h2 fn.res=some vs):aV A f args h=some (dY vs,h2):=by
 refine mN hf ?_
 unfold gG
 rw[if_pos hnp]
 simp [hp,hx,fin,hres]
def DR (l:List Nat):List AV:=l.map fun (b:Nat)=>AV.int .u8 (b:Int)
@[simp] theorem zT (l : List Nat) : (DR l).length = l.length := by simp [DR]
structure SS where
 at_:Nat
 out:List Nat
 e:Int
structure SC where
 s:Nat
 r:Nat
 text:ByteArray
 most:Int
structure St (c:SC) (S:SS) (h:H) (ov:AV):Prop where
 gs:h.get c.s=some [.aH c.r 0,ov,I c.most,I S.e]
 gr:h.get c.r=some [.str c.text,I S.at_]
 own:pP h ov (DR S.out)
 sr:c.s≠c.r
 fs:h.floor≤c.s
 fr:h.floor≤c.r
 os:ov.id?≠some c.s
 or:ov.id?≠some c.r
 nx:h.floor≤h.next
 sz:c.text.size<1125899906842624
 zC:S.at_≤8* c.text.size
 ol:(S.out.length:Int)≤c.most
 ml:c.most≤900000
structure Fr (c:SC) (h:H) (ov:AV) (h':H) (ov':AV):Prop where
 fl:h'.floor=h.floor
 nx:h.next≤h'.next
 CR:∀id,id<h.next→id≠c.s→id≠c.r→ov.id?≠some id→h'.get id=h.get id
 nb:∀i,ov'.id?=some i→ov.id?=some i∨h.next≤i
theorem Fr.refl (c:SC) (h:H) (ov:AV):Fr c h ov h ov:=⟨rfl,ya _,fun _ _ _ _ _=>rfl,fun _ q=>.inl q⟩
theorem Fr.trans {c:SC} {h1 h2 h3:H} {o1 o2 o3:AV} (a:Fr c h1 o1 h2 o2) (b:Fr c h2 o2 h3 o3):Fr c h1 o1 h3 o3:=by
 refine⟨b.fl.trans a.fl,yF a.nx b.nx,fun id h4 h5 h6 h7=> ?_,fun i hi=> ?_⟩
 · rw[b.CR id (Nat.lt_of_lt_of_le h4 a.nx) h5 h6 (fun q=> ?_),a.CR id h4 h5 h6 h7]
   rcases a.nb id q with q|q
   · exact h7 q
   · omega
 · rcases b.nb i hi with q|q
   · exact a.nb i q
   · exact .inr (yF a.nx q)
theorem St.PQ {c:SC} {S:SS} {h:H} {ov:AV} (st:St c S h ov) (e:Int):St c {S with e:=e} (h.set c.s [.aH c.r 0,ov,I c.most,I e]) ov∧Fr c h ov (h.set c.s [.aH c.r 0,ov,I c.most,I e]) ov:=by
 refine⟨⟨by rw[H.eh,if_pos rfl,st.gs];rfl,by rw[H.eh,if_neg (Ne.symm st.sr)];exact st.gr,st.own.mono (by simp) fun i hi=> ?_,st.sr,by simpa using st.fs,by simpa using st.fr,st.os,st.or,by simpa using st.nx,st.sz,st.zC,st.ol,st.ml⟩,⟨by simp,by simp,fun id h1 h2 h3 h4=>by rw[H.eh,if_neg h2],fun _ q=>.inl q⟩⟩
 rw[H.eh,if_neg];intro (e:i=c.s);exact st.os (e ▸ hi)
theorem St.MT {c:SC} {S:SS} {h:H} {ov:AV} (st:St c S h ov) {p:Nat} (hp:p≤8* c.text.size):St c {S with at_:=p} (h.set c.r [.str c.text,I p]) ov∧Fr c h ov (h.set c.r [.str c.text,I p]) ov:=by
 refine⟨⟨by rw[H.eh,if_neg st.sr];exact st.gs,by rw[H.eh,if_pos rfl,st.gr];rfl,st.own.mono (by simp) fun i hi=> ?_,st.sr,by simpa using st.fs,by simpa using st.fr,st.os,st.or,by simpa using st.nx,st.sz,hp,st.ol,st.ml⟩,⟨by simp,by simp,fun id h1 h2 h3 h4=>by rw[H.eh,if_neg h3],fun _ q=>.inl q⟩⟩
 rw[H.eh,if_neg];intro (e:i=c.r);exact st.or (e ▸ hi)
def yQ (k:Int) (S:SS):SS:=if S.e=0 then {S with e:=k}else S
theorem zP {c:SC} {S:SS} {h:H} {ov:AV} (st:St c S h ov) (k:Int):∃h',aV AP.A 45 [.aH c.s 0,I k] h=some (.cf [],h')∧St c (yQ k S) h' ov∧Fr c h ov h' ov:=by
 have gs:=st.gs
 have fs:=st.fs
 by_cases he:S.e=0
 · refine⟨_, ?_,by rw[yQ,if_pos he];exact(st.PQ k).1,(st.PQ k).2⟩
   refine zh (fn:=AP.f45) (e:=[]) rfl rfl rfl ?_ rfl
   simp only[I]at *
   simp [AP.f45,params,aP,az,aj,ai,gs,he,fs]
 · refine⟨h, ?_,by rw[yQ,if_neg he];exact st,Fr.refl _ _ _⟩
   refine zh (fn:=AP.f45) (e:=[]) rfl rfl rfl ?_ rfl
   simp only[I]at *
   simp [AP.f45,params,aP,az,aj,ai,gs,he,fs]
def yP (c:SC) (n:Nat) (S:SS):Nat×SS:=if S.at_+n≤8* c.text.size then(yN c.text S.at_ n,{S with at_:=S.at_+n})else(0,yQ 700 S)
theorem H0 {c:SC} {S:SS} {h:H} {ov:AV} (st:St c S h ov) {n:Nat} (hn:n≤16):∃h',aV AP.A 38 [.aH c.s 0,I n] h=some (I ((yP c n S).1:Nat),h')∧St c (yP c n S).2 h' ov∧Fr c h ov h' ov:=by
 have gs:=st.gs
 by_cases hp:S.at_+n≤8* c.text.size
 · have g:=MG h c.r c.text S.at_ n st.gr st.fr st.sz hp hn
   refine⟨_, ?_,by rw[yP,if_pos hp];exact(st.MT hp).1,(st.MT hp).2⟩
   rw[yP,if_pos hp]
   refine wF (fn:=AP.f38) (e:=[(4,I (yN c.text S.at_ n:Nat))]) rfl rfl rfl ?_ rfl
   simp only[I]at *
   simp [AP.f38,params,aP,az,aj,ai,gs,bg,g]
 · have g:=Jz h c.r c.text S.at_ n st.gr st.sz st.zC (by omega) hn
   obtain⟨h',k1,k2,k3⟩:=zP st 700
   refine⟨h', ?_,by rw[yP,if_neg hp];exact k2,k3⟩
   rw[yP,if_neg hp]
   refine wF (fn:=AP.f38) (e:=[(4,I 0)]) rfl rfl rfl ?_ rfl
   simp only[I]at *
   simp [AP.f38,params,aP,az,aj,ai,gs,bg,g,k1]
def DE (c:SC) (b:Nat) (S:SS):SS:=
 let T:=if c.most≤S.out.length then yQ 701 S else S
 if T.e=0 then {T with out:=T.out++[b]}else T
theorem pP.len {h:H} {v:AV} {cs:List AV} (o:pP h v cs):j6 false v=some (I cs.length):=by
 rcases o with ⟨rfl,rfl⟩|⟨id,rfl,_⟩<;>rfl
theorem Iw {c : SC} {S : SS} {h : H} {ov : AV} (st : St c S h ov) {b : Nat} : ∃ h' ov', aV AP.A 59 [.aH c.s 0, .int .u8 b] h = some (.cf [], h') ∧ St c (DE c b S) h' ov' ∧ Fr c h ov h' ov' := by
 have gs0:=st.gs
 have hol:=st.ol
 have hml:=st.ml
 have ln:=st.own.len
 rw[zT]at ln
 by_cases hm:c.most≤S.out.length
 · obtain⟨h1,k1,k2,k3⟩:=zP st 701
   have he:(yQ 701 S).e≠0:=by unfold yQ;split<;>simp_all
   have hp:DE c b S=yQ 701 S:=by unfold DE;simp only[if_pos hm,if_neg he]
   have gs1:=k2.gs
   refine⟨h1,ov, ?_,by rw[hp];exact k2,k3⟩
   refine zh (fn:=AP.f59) (e:=[]) rfl rfl rfl ?_ rfl
   simp only[I]at *
   simp [AP.f59,params,aP,az,aR,aj,ai,gs0,ln,hm,bg,k1,gs1,he]
 by_cases he:S.e=0
 · have hp:DE c b S={S with out:=S.out++[b]}:=by unfold DE;simp only[if_neg hm,if_pos he]
   have hsl:c.s<h.next:=h.lt _ _ st.gs
   have hrl:c.r<h.next:=h.lt _ _ st.gr
   obtain⟨h1,eh1⟩:∃g,g=h.alloc [.int .u8 b]:=⟨_,rfl⟩
   have hlo1:∀i,i≠h.next→h1.get i=h.get i:=fun i q=>by rw[eh1,H.bc,if_neg q]
   have hfl1:h1.floor=h.floor:=by rw[eh1];simp
   have hnx1:h1.next=h.next+1:=by rw[eh1];simp
   have ho1:pP h1 ov (DR S.out):=st.own.mono hfl1 fun i hi=>hlo1 i (by have:=st.own.lt hi;omega)
   have hnxf:=st.nx
   obtain⟨v',h2,q1,q2,q3,q4,q5,q6⟩:=ho1.app (by omega) (z:=1) (.int .u8 b) rfl (by simp [roomy];omega)
   have hal2:h1.get h.next=some [.int .u8 b]:=by rw[eh1,H.bc,if_pos rfl]
   have gs1:h1.get c.s=some [.aH c.r 0,ov,I c.most,I S.e]:=by rw[hlo1 _ (by omega)];exact st.gs
   have gs2:h2.get c.s=some [.aH c.r 0,ov,I c.most,I S.e]:=by rw[q5 _ st.os (by omega)];exact gs1
   have gr2:h2.get c.r=some [.str c.text,I S.at_]:=by rw[q5 _ st.or (by omega),hlo1 _ (by omega)];exact st.gr
   have fs2:h2.floor≤c.s:=by have:=st.fs;omega
   have hv':v'.cells=[v']∧v'.sc=true:=by
    rcases q2 with ⟨rfl,_⟩|⟨id,rfl,_⟩<;>exact⟨rfl,rfl⟩
   have hby:DR (S.out++[b])=DR S.out++[.int .u8 b]:=by simp [DR]
   refine⟨h2.set c.s [.aH c.r 0,v',I c.most,I S.e],v', ?_, ?_, ?_⟩
   · refine zh (fn:=AP.f59) (e:=[]) rfl rfl rfl ?_ rfl
     simp only[I]at *
     simp [AP.f59,params,aP,az,aR,aj,ai,bJ,bh,eQ,eZ,mV,aW,gs0,ln,hm,he,←eh1,hal2,gs1,q1,gs2,fs2,hv'.1,hv'.2]
   · rw[hp]
     refine⟨by rw[H.eh,if_pos rfl,gs2];rfl,by rw[H.eh,if_neg (Ne.symm st.sr)];exact gr2, ?_,st.sr,by simpa using fs2,by have:=st.fr;simp;omega, ?_, ?_,by simp;omega,st.sz,st.zC,by simp;omega,st.ml⟩
     · rw[hby]
       refine q2.mono (by simp) fun i hi=> ?_
       rw[q6]at hi;cases hi
       rw[H.eh,if_neg (by omega)]
     · rw[q6];intro e;have:=xO e;omega
     · rw[q6];intro e;have:=xO e;omega
   · refine⟨by simp;omega,by simp;omega,fun id a1 a2 a3 a4=> ?_,fun i hi=> ?_⟩
     · rw[H.eh,if_neg a2,q5 id a4 (by omega),hlo1 id (by omega)]
     · rw[q6]at hi;cases hi;right;omega
 · have hp:DE c b S=S:=by unfold DE;simp only[if_neg hm,if_neg he]
   refine⟨h,ov, ?_,by rw[hp];exact st,Fr.refl _ _ _⟩
   refine zh (fn:=AP.f59) (e:=[]) rfl rfl rfl ?_ rfl
   simp only[I]at *
   simp [AP.f59,params,aP,az,aR,aj,ai,gs0,ln,hm,he]
theorem Qk (h:H) (s:ByteArray):aV AP.A 14 [.str s] h=some (.aH h.next 0,h.alloc [.str s,I 0]):=by
 refine wF (fn:=AP.f14) (e:=[(2,.aH h.next 0)]) rfl rfl rfl ?_ rfl
 have b:bh [(4,.agg [.str s,I 0]),(3,.str s),(0,.str s)] (.box 2 (.t 4))=some ([.str s,I 0],fun i=>.aH i 0):=rfl
 have f:eZ [.str ⟨#[]⟩,.int .i64 0] [(0,1,.str s)]=some [.str s,I 0]:=rfl
 simp only[I]at *
 simp only[AP.f14,go_sem,QY,Q2,f,b]
theorem Ji (h:H) (r:Nat) (s:ByteArray) (p:Nat) (hg:h.get r=some [.str s,I p]) (hf:h.floor≤r) (hs:s.size<1125899906842624) (hp:p≤8* s.size):
 aV AP.A 16 [.aH r 0] h=some (I 0,h.set r [.str s,I ((p+7)/8* 8:Nat)]):=by
 refine wF (fn:=AP.f16) (e:=[(2,I 0)]) rfl rfl rfl ?_ rfl
 have w1:IntKind.wrap .i64 ((p:Int)+8)=((p+8:Nat):Int):=yJ (n:=p+8) (by omega)
 have w2:IntKind.wrap .i64 (((p+8:Nat):Int)-1)=((p+7:Nat):Int):=by
  rw[show((p+8:Nat):Int)-1=((p+7:Nat):Int)by omega];exact yJ (by omega)
 have w3:IntKind.wrap .i64 (((p+7:Nat):Int).tdiv 8)=(((p+7)/8:Nat):Int):=by
  rw[show(8:Int)=((8:Nat):Int)from rfl,zN];exact yJ (by omega)
 have w4:IntKind.wrap .i64 ((((p+7)/8:Nat):Int)* 8)=(((p+7)/8* 8:Nat):Int):=by
  rw[show(((p+7)/8:Nat):Int)* 8=(((p+7)/8* 8:Nat):Int)by omega];exact yJ (by omega)
 have st:∀v,wZ h r 1 1 [.int .i64 v] (some [.str s,.int .i64 p])=some (h.set r [.str s,.int .i64 v]):=fun v=>xG hf (by simp) rfl
 have q:bH .quo (.int .i64 ((p+7:Nat):Int)) (.int .i64 8)=some (.int .i64 (((p+7)/8:Nat):Int)):=by rw[u9 _ _ _ (by omega),w3]
 simp only[I]at *
 simp only[AP.f16,go_sem,hg,w1,w2,q,w4,st]
theorem Qa (h:H) (r:Nat) (s:ByteArray) (p:Nat) (hg:h.get r=some [.str s,I p]):aV AP.A 17 [.aH r 0] h=some (I p,h):=by
 refine wF (fn:=AP.f17) (e:=[(2,I p)]) rfl rfl rfl ?_ rfl
 simp only[I]at *
 simp only[AP.f17,go_sem,hg]
theorem AW {c:SC} {S:SS} {h:H} {ov:AV} (st:St c S h ov) (n:Nat) (m:Int) (hm:m=n) (hn:n≤16):∃h',aV AP.A 38 [.aH c.s 0,I m] h=some (I ((yP c n S).1:Nat),h')∧St c (yP c n S).2 h' ov∧Fr c h ov h' ov:=by
 subst hm;exact H0 st hn
theorem G4 {c:SC} {S:SS} {h:H} {ov:AV} (st:St c S h ov) {n least:Nat} (hn:n≤16) (hl:least<100000):∃h',aV AP.A 73 [.aH c.s 0,I least,I n,I 0] h=some (I ((least+(yP c n S).1:Nat)),h')∧St c (yP c n S).2 h' ov∧Fr c h ov h' ov:=by
 obtain⟨h',k1,k2,k3⟩:=H0 st hn
 refine⟨h', ?_,k2,k3⟩
 have hb:(yP c n S).1<65536:=by
  unfold yP;split
  · have:=zg c.text S.at_ n
    have:=QO (show 0<2 by omega) hn
    simp at *;omega
  · simp
 have w:IntKind.wrap .i64 ((least:Int)+((yP c n S).1:Nat))=((least+(yP c n S).1:Nat):Int):=by
  rw[show(least:Int)+((yP c n S).1:Nat)=((least+(yP c n S).1:Nat):Int)by omega];exact yJ (by omega)
 refine wF (fn:=AP.f73) (e:=[(8,I ((least+(yP c n S).1:Nat)))]) rfl rfl rfl ?_ rfl
 simp only[I]at *
 simp only[AP.f73,go_sem,k1,w]
theorem EF {c:SC} {S:SS} {h:H} {ov:AV} (st:St c S h ov) (he:S.e=0):∃h' S',aV AP.A 73 [.aH c.s 0,I 0,I 0,I 600] h=some (I 0,h')∧St c S' h' ov∧Fr c h ov h' ov∧S'.e=700:=by
 obtain⟨h1,k1,k2,k3⟩:=zP st 700
 obtain⟨h',l1,l2,l3⟩:=H0 k2 (n:=0) (by omega)
 have hS:yQ 700 S={S with e:=700}:=by rw[yQ,if_pos he]
 have hle:=st.zC
 have hg:yP c 0 (yQ 700 S)=(0,yQ 700 S):=by
  rw[yP,if_pos (by rw[hS];exact hle)];rfl
 rw[hg]at l1 l2
 have l1':aV AP.A 38 [.aH c.s 0,I 0] h1=some (I 0,h'):=l1
 clear l1
 refine⟨h',_, ?_,l2,k3.trans l3,by rw[hS]⟩
 have w:IntKind.wrap .i64 (0+0)=0:=wJ (by omega) (by omega)
 refine wF (fn:=AP.f73) (e:=[(8,I 0)]) rfl rfl rfl ?_ rfl
 simp only[I]at *
 simp only[AP.f73,go_sem,k1,l1',w]
def Ai (t:ByteArray) (l:List Int):Nat→Nat→Nat→Nat→Option (Int×Nat)
 |0,_,_,_=>none
 |k+1,n,v,p=>if p+1≤8* t.size then(match Ap l n ((v* 2+yN t p 1:Nat):Int)with|some y=>some (y,p+1)|none=>Ai t l k (n+1) (v* 2+yN t p 1) (p+1))else none
theorem FU {c:SC} {S:SS} {h:H} {ov:AV} (st:St c S h ov) (l:List Int) (v n:Nat) (hs:n=16∨(n≤15∧S.e≠0)):
 ∃e',Lp AP.A [0,1,5,6] AP.f60L0 [(0,.aH c.s 0),(1,y8 l),(5,I v),(6,I n)] h=some (.exit 0,e',h)∧look e' 0=.aH c.s 0:=by
 have gs:=st.gs
 refine⟨[(0,.aH c.s 0),(1,y8 l),(5,I v),(6,I n),(17,.bool false)],wh ?_,rfl⟩
 rcases hs with hn|⟨hn,he⟩
 · have c1:¬(n:Int)≤15:=by omega
   simp only[I]at *
   simp only[AP.f60L0,go_sem,QL c1]
 · have c1:(n:Int)≤15:=by omega
   have c2:(S.e==0)=false:=xb he
   simp only[I]at *
   simp only[AP.f60L0,go_sem,QM c1,gs,c2]
theorem FT {c : SC} (l : List Int) (hl : l.length < 100000) : ∀ (k n v : Nat) (S : SS) (h : H) (ov : AV), n + k = 16 → 1 ≤ n → v < 2 ^ (n - 1) → St c S h ov → S.e = 0 →
 ∃ h' S', St c S' h' ov ∧ Fr c h ov h' ov ∧ match Ai c.text l k n v S.at_ with
   |some (y,p)=>S'={S with at_:=p}∧∃e',Lp AP.A [0,1,5,6] AP.f60L0 [(0,.aH c.s 0),(1,y8 l),(5,I v),(6,I n)] h=some (.ret,e',h')∧look e' 4=I y
   |none=>(S'.e=0∨S'.e=700)∧∃e',Lp AP.A [0,1,5,6] AP.f60L0 [(0,.aH c.s 0),(1,y8 l),(5,I v),(6,I n)] h=some (.exit 0,e',h')∧look e' 0=.aH c.s 0
 | 0, n, v, S, h, ov, hk, hn, hv, st, he => by
   obtain⟨e',q1,q2⟩:=FU st l v n (.inl (by omega))
   exact⟨h,S,st,Fr.refl _ _ _,by simp only[Ai];exact⟨.inl he,e',q1,q2⟩⟩
 | k + 1, n, v, S, h, ov, hk, hn, hv, st, he => by
   have gs:=st.gs
   obtain⟨h1,k1,k2,k3⟩:=AW st 1 1 rfl (by omega)
   obtain⟨x,hx⟩:∃x,x=(yP c 1 S).1:=⟨_,rfl⟩
   obtain⟨S1,hS1⟩:∃x,x=(yP c 1 S).2:=⟨_,rfl⟩
   rw[←hx]at k1;rw[←hS1]at k2
   have hp:2^n≤2^15:=QO (by omega) (by omega)
   have h2:2^(n-1+1)=2^(n-1)* 2:=Nat.pow_succ 2 (n-1)
   rw[show n-1+1=n by omega]at h2
   obtain⟨P,hP⟩:∃P:Nat,P=2^(n-1):=⟨_,rfl⟩
   rw[←hP]at h2 hv
   obtain⟨Q,hQ⟩:∃Q:Nat,Q=2^n:=⟨_,rfl⟩
   rw[←hQ]at h2 hp
   simp only[Nat.reducePow]at hp
   have hx1:x<2:=by
    rw[hx];unfold yP;split
    · have:=zg c.text S.at_ 1;simpa using this
    · simp
   have hv':v* 2+x<Q:=by omega
   have w1:IntKind.wrap .i64 ((v:Int)* 2)=((v* 2:Nat):Int):=by
    rw[show(v:Int)* 2=((v* 2:Nat):Int)by omega];exact yJ (by omega)
   have w2:IntKind.wrap .i64 (((v* 2:Nat):Int)+(x:Int))=((v* 2+x:Nat):Int):=by
    rw[show((v* 2:Nat):Int)+(x:Int)=((v* 2+x:Nat):Int)by omega];exact yJ (by omega)
   have w3:IntKind.wrap .i64 ((n:Int)+1)=((n+1:Nat):Int):=yJ (n:=n+1) (by omega)
   have c1:(n:Int)≤15:=by omega
   have fc:=Ly h1 l hl n hn (by omega) ((v* 2+x:Nat):Int) (by omega) (by omega)
   have gs1:=k2.gs
   have step:(Ap l n ((v* 2+x:Nat):Int)=none∨S1.e≠0)→aP (aV AP.A) bL AP.f60L0 (aC [(0,.aH c.s 0),(1,y8 l),(5,I v),(6,I n)] [0,1,5,6]) h=some (.normal,[(0,.aH c.s 0),(1,y8 l),(5,I (v* 2+x:Nat)),(6,I (n+1:Nat))],h1):=by
    intro hc
    rcases hc with hc|hc
    · rw[hc]at fc
      simp only[I]at *
      simp only[AP.f60L0,go_sem,QM c1,gs,he,k1,w1,w2,fc,w3]
    · have c2:(S1.e==0)=false:=xb hc
      cases hf:Ap l n ((v* 2+x:Nat):Int)with
      | none =>
        rw[hf]at fc
        simp only[I]at *
        simp only[AP.f60L0,go_sem,QM c1,gs,he,k1,w1,w2,fc,w3]
      | some y =>
        rw[hf]at fc
        simp only[I]at *
        simp only[AP.f60L0,go_sem,QM c1,gs,he,k1,w1,w2,fc,w3,gs1,c2]
   by_cases hat:S.at_+1≤8* c.text.size
   · have eg:yP c 1 S=(yN c.text S.at_ 1,{S with at_:=S.at_+1}):=by rw[yP,if_pos hat]
     rw[eg]at hx hS1
     dsimp only at hx hS1
     subst hx hS1
     rw[Ai,if_pos hat]
     cases hf:Ap l n ((v* 2+yN c.text S.at_ 1:Nat):Int)with
     | none =>
       obtain⟨h',S',q1,q2,q3⟩:=FT l hl k (n+1) (v* 2+yN c.text S.at_ 1) _ h1 ov (by omega) (by omega) (by rw[Nat.add_sub_cancel,←hQ];exact hv') k2 he
       refine⟨h',S',q1,k3.trans q2, ?_⟩
       dsimp only at q3 ⊢
       have sp:=step (.inl hf)
       cases hy:Ai c.text l k (n+1) (v* 2+yN c.text S.at_ 1) (S.at_+1)with
       | none =>
         rw[hy]at q3
         obtain⟨q3,e',q4,q5⟩:=q3
         exact⟨q3,e',wj sp q4,q5⟩
       | some y =>
         rw[hy]at q3
         obtain⟨q3,e',q4,q5⟩:=q3
         exact⟨q3,e',wj sp q4,q5⟩
     | some y =>
       refine⟨h1,_,k2,k3,rfl,[(4,I y)],wM ?_,rfl⟩
       rw[hf]at fc
       simp only[I]at *
       simp only[AP.f60L0,go_sem,QM c1,gs,he,k1,w1,w2,fc,w3,gs1]
   · have eg:yP c 1 S=(0,{S with e:=700}):=by rw[yP,if_neg hat,yQ,if_pos he]
     rw[eg]at hx hS1
     dsimp only at hx hS1
     subst hx hS1
     rw[Ai,if_neg hat]
     have hst:n+1=16∨(n+1≤15∧(700:Int)≠0):=by omega
     obtain⟨e',q1,q2⟩:=FU k2 l (v* 2+0) (n+1) hst
     exact⟨h1,_,k2,k3,.inr rfl,e',wj (step (.inr (by simp))) q1,q2⟩
theorem DO {c:SC} {S:SS} {h:H} {ov:AV} (l:List Int) (hl:l.length<100000) (st:St c S h ov) (he:S.e=0):
 ∃ h' S' y, aV AP.A 60 [.aH c.s 0, y8 l] h = some (I y, h') ∧ St c S' h' ov ∧ Fr c h ov h' ov ∧ match Ai c.text l 15 1 0 S.at_ with
   |some (z,p)=>S'={S with at_:=p}∧y=z
   |none=>S'.e=700∧y=256:=by
 obtain⟨h1,S1,q1,q2,q3⟩:=FT l hl 15 1 0 S h ov (by omega) (by omega) (by simp) st he
 cases hy:Ai c.text l 15 1 0 S.at_ with
 | some yp =>
   rw[hy]at q3
   obtain⟨q3,e',q4,q5⟩:=q3
   refine⟨h1,S1,yp.1, ?_,q1,q2,q3,rfl⟩
   refine wF (fn:=AP.f60) (e:=e') (vs:=[I yp.1]) rfl rfl rfl ?_ (by simp only[AP.f60,di,pG,q5];rfl)
   have q6:Lp AP.A [0,1,5,6] AP.f60L0 [(0,.aH c.s 0),(1,y8 l),(5,I 0),(6,I 1)] h=some (.ret,e',h1):=q4
   clear q4
   simp only[I]at *
   simp only[AP.f60,go_sem,vp,q6]
 | none =>
   rw[hy]at q3
   obtain⟨q3,e',q4,q5⟩:=q3
   obtain⟨h2,r1,r2,r3⟩:=zP q1 700
   refine⟨h2,yQ 700 S1,256, ?_,r2,q2.trans r3, ?_,rfl⟩
   · refine wF (fn:=AP.f60) (e:=[(4,I 256)]) rfl rfl rfl ?_ rfl
     have q6:Lp AP.A [0,1,5,6] AP.f60L0 [(0,.aH c.s 0),(1,y8 l),(5,I 0),(6,I 1)] h=some (.exit 0,e',h1):=q4
     clear q4
     simp only[I]at *
     simp only[AP.f60,go_sem,vp,q6,q5,r1]
   · rcases q3 with q3|q3<;>simp [yQ,q3]
def lenOf (y:Nat):Option (Nat×Nat):=
 if y≤256∨285<y then none else if y=285 then some (258,0)else if y<265 then some (y-254,0)else some (3+(4+(y-257)%4)* 2^((y-257)/4-1),(y-257)/4-1)
def zY (y:Nat):Option (Nat×Nat):=
 if 30≤y then none else if y<4 then some (1+y,0)else some (1+(2+y%2)* 2^(y/2-1),y/2-1)
theorem FE {y a b:Nat} (h:lenOf y=some (a,b)):a≤258∧b≤5∧0<a:=by
 have key:∀y<286,∀a b,lenOf y=some (a,b)→a≤258∧b≤5∧0<a:=by
  intro y hy a b h
  have:((lenOf y).map fun p=>decide (p.1≤258∧p.2≤5∧0<p.1))=(lenOf y).map fun _=>true:=by
   clear h
   revert y
   decide+kernel
  rw[h]at this
  simpa using this
 by_cases hy:y<286
 · exact key y hy a b h
 · rw[lenOf,if_pos (by omega)]at h;cases h
theorem Ea {y a b:Nat} (h:zY y=some (a,b)):a≤24577∧b≤13∧0<a:=by
 have key:∀y<30,∀a b,zY y=some (a,b)→a≤24577∧b≤13∧0<a:=by
  intro y hy a b h
  have:((zY y).map fun p=>decide (p.1≤24577∧p.2≤13∧0<p.1))=(zY y).map fun _=>true:=by
   clear h
   revert y
   decide+kernel
  rw[h]at this
  simpa using this
 by_cases hy:y<30
 · exact key y hy a b h
 · rw[zY,if_pos (by omega)]at h;cases h
def Bw (o:Option (Nat×Nat)):AV:=match o with
 |some p=>.cf [I p.1,I p.2,I 0]
 |none=>.cf [I 0,I 0,I 600]
theorem JE (h:H) (y:Nat) (hy:y<1000000):aV AP.A 74 [I y] h=some (Bw (lenOf y),h):=by
 have d1:decide ((y:Int)≤256)=decide (y≤256):=by by_cases q:y≤256<;>simp [q]<;>omega
 have w1:IntKind.wrap .i64 ((y:Int)-256)=(y:Int)-256:=wJ (by omega) (by omega)
 have w2:IntKind.wrap .i64 ((y:Int)-256-1)=(y:Int)-257:=by rw[show(y:Int)-256-1=(y:Int)-257 by omega];exact wJ (by omega) (by omega)
 by_cases c1:y≤256
 · rw[lenOf,if_pos (.inl c1)]
   refine wX (fn:=AP.f74) (h2:=h.eY) (e:=[(2,I 0),(3,I 0),(4,I 600)]) rfl rfl rfl ?_ rfl rfl
   have c1':(y:Int)≤256:=by omega
   simp only[I]at *
   simp only[AP.f74,go_sem,w1,w2,QM c1']
 have c1':¬(y:Int)≤256:=by omega
 by_cases c2:285<y
 · rw[lenOf,if_pos (.inr c2)]
   refine wX (fn:=AP.f74) (h2:=h.eY) (e:=[(2,I 0),(3,I 0),(4,I 600)]) rfl rfl rfl ?_ rfl rfl
   have c2':(285:Int)<y:=by omega
   simp only[I]at *
   simp only[AP.f74,go_sem,w1,w2,QL c1',QM c2']
 have c2':¬(285:Int)<y:=by omega
 rw[lenOf,if_neg (by omega)]
 by_cases c3:y=285
 · rw[if_pos c3]
   refine wX (fn:=AP.f74) (h2:=h.eY) (e:=[(2,I 258),(3,I 0),(4,I 0)]) rfl rfl rfl ?_ rfl rfl
   have c3':((y:Int)==285)=true:=xc (by omega)
   simp only[I]at *
   simp only[AP.f74,go_sem,w1,w2,QL c1',QL c2',c3']
 rw[if_neg c3]
 have c3':((y:Int)==285)=false:=xb (by omega)
 by_cases c4:y<265
 · rw[if_pos c4]
   refine wX (fn:=AP.f74) (h2:=h.eY) (e:=[(2,I (y-254:Nat)),(3,I 0),(4,I 0)]) rfl rfl rfl ?_ rfl rfl
   have c4':(y:Int)-257<8:=by omega
   have w3:IntKind.wrap .i64 (3+((y:Int)-257))=((y-254:Nat):Int):=by rw[show 3+((y:Int)-257)=((y-254:Nat):Int)by omega];exact yJ (by omega)
   simp only[I]at *
   simp only[AP.f74,go_sem,w1,w2,QL c1',QL c2',c3',QM c4',w3]
 rw[if_neg c4]
 have c4':¬(y:Int)-257<8:=by omega
 obtain⟨k,hk⟩:∃k:Nat,(y:Int)-257=k:=QQ (by omega)
 have hk':y-257=k:=by omega
 rw[hk]at w2 c4'
 rw[hk']
 have q1:bH .quo (.int .i64 (k:Int)) (.int .i64 4)=some (.int .i64 ((k/4:Nat):Int)):=by
  rw[u9 _ _ _ (by omega),show(4:Int)=((4:Nat):Int)from rfl,zN,yJ (by omega)]
 have q2:bH .rem (.int .i64 (k:Int)) (.int .i64 4)=some (.int .i64 ((k%4:Nat):Int)):=by
  rw[ve _ _ _ (by omega),show(4:Int)=((4:Nat):Int)from rfl,A4]
 have w3:IntKind.wrap .i64 (((k/4:Nat):Int)-1)=((k/4-1:Nat):Int):=by rw[show((k/4:Nat):Int)-1=((k/4-1:Nat):Int)by omega];exact yJ (by omega)
 have w4:IntKind.wrap .i64 (4+((k%4:Nat):Int))=((4+k%4:Nat):Int):=by rw[show 4+((k%4:Nat):Int)=((4+k%4:Nat):Int)by omega];exact yJ (by omega)
 have hp:2^(k/4-1)≤2^5:=QO (by omega) (by omega)
 have hm:(4+k%4)* 2^(k/4-1)≤7* 2^5:=Nat.mul_le_mul (by omega) hp
 have q3:rL .shl .i64 ((4+k%4:Nat):Int) ((k/4-1:Nat):Int)=some (.int .i64 (((4+k%4)* 2^(k/4-1):Nat):Int)):=Ay (by omega) (by omega)
 generalize (4+k%4)* 2^(k/4-1)=P at *
 have w5:IntKind.wrap .i64 (3+(P:Int))=((3+P:Nat):Int):=by rw[show 3+(P:Int)=((3+P:Nat):Int)by omega];exact yJ (by omega)
 refine wX (fn:=AP.f74) (h2:=h.eY) (e:=[(2,I (3+P:Nat)),(3,I (k/4-1:Nat)),(4,I 0)]) rfl rfl rfl ?_ rfl rfl
 simp only[I]at *
 simp only[AP.f74,go_sem,w1,w2,QL c1',QL c2',c3',QL c4',q1,q2,w3,w4,q3,w5]
theorem HQ (h:H) (y:Nat) (hy:y<1000000):aV AP.A 75 [I y] h=some (Bw (zY y),h):=by
 have c0:¬(y:Int)<0:=by omega
 by_cases c1:30≤y
 · rw[zY,if_pos c1]
   refine wX (fn:=AP.f75) (h2:=h.eY) (e:=[(2,I 0),(3,I 0),(4,I 600)]) rfl rfl rfl ?_ rfl rfl
   have c1':(30:Int)≤y:=by omega
   simp only[I]at *
   simp only[AP.f75,go_sem,QL c0,QM c1']
 have c1':¬(30:Int)≤y:=by omega
 rw[zY,if_neg c1]
 by_cases c2:y<4
 · rw[if_pos c2]
   refine wX (fn:=AP.f75) (h2:=h.eY) (e:=[(2,I (1+y:Nat)),(3,I 0),(4,I 0)]) rfl rfl rfl ?_ rfl rfl
   have c2':(y:Int)<4:=by omega
   have w3:IntKind.wrap .i64 (1+(y:Int))=((1+y:Nat):Int):=by rw[show 1+(y:Int)=((1+y:Nat):Int)by omega];exact yJ (by omega)
   simp only[I]at *
   simp only[AP.f75,go_sem,QL c0,QL c1',QM c2',w3]
 rw[if_neg c2]
 have c2':¬(y:Int)<4:=by omega
 have q1:bH .quo (.int .i64 (y:Int)) (.int .i64 2)=some (.int .i64 ((y/2:Nat):Int)):=by
  rw[u9 _ _ _ (by omega),show(2:Int)=((2:Nat):Int)from rfl,zN,yJ (by omega)]
 have q2:bH .rem (.int .i64 (y:Int)) (.int .i64 2)=some (.int .i64 ((y%2:Nat):Int)):=by
  rw[ve _ _ _ (by omega),show(2:Int)=((2:Nat):Int)from rfl,A4]
 have w3:IntKind.wrap .i64 (((y/2:Nat):Int)-1)=((y/2-1:Nat):Int):=by rw[show((y/2:Nat):Int)-1=((y/2-1:Nat):Int)by omega];exact yJ (by omega)
 have w4:IntKind.wrap .i64 (2+((y%2:Nat):Int))=((2+y%2:Nat):Int):=by rw[show 2+((y%2:Nat):Int)=((2+y%2:Nat):Int)by omega];exact yJ (by omega)
 have hp:2^(y/2-1)≤2^13:=QO (by omega) (by omega)
 have hm:(2+y%2)* 2^(y/2-1)≤3* 2^13:=Nat.mul_le_mul (by omega) hp
 have q3:rL .shl .i64 ((2+y%2:Nat):Int) ((y/2-1:Nat):Int)=some (.int .i64 (((2+y%2)* 2^(y/2-1):Nat):Int)):=Ay (by omega) (by omega)
 generalize (2+y%2)* 2^(y/2-1)=P at *
 have w5:IntKind.wrap .i64 (1+(P:Int))=((1+P:Nat):Int):=by rw[show 1+(P:Int)=((1+P:Nat):Int)by omega];exact yJ (by omega)
 refine wX (fn:=AP.f75) (h2:=h.eY) (e:=[(2,I (1+P:Nat)),(3,I (y/2-1:Nat)),(4,I 0)]) rfl rfl rfl ?_ rfl rfl
 simp only[I]at *
 simp only[AP.f75,go_sem,QL c0,QL c1',QL c2',q1,q2,w3,w4,q3,w5]
abbrev Rs:=Except Int (Nat×List Nat)
def Fin (r:Rs) (S:SS):Prop:=match r with
 | .ok q=>S=⟨q.1,q.2,0⟩
 | .error k=>S.e=k∧k≠0
theorem EX {c:SC} {S:SS} (b:Nat) (he:S.e=0) (hm:¬c.most≤S.out.length):DE c b S=⟨S.at_,S.out++[b],0⟩:=by
 simp only[DE,if_neg hm,he,if_true]
theorem CF {c:SC} {S:SS} (b:Nat) (he:S.e=0) (hm:c.most≤S.out.length):(DE c b S).e=701:=by
 simp [DE,hm,yQ,he]
def zG (t:ByteArray) (most:Int):Nat→Nat→List Nat→Rs
 |0,p,out=>.ok (p,out)
 |n+1,p,out=>if p+8≤8* t.size then(if most≤out.length then .error 701 else zG t most n (p+8) (out++[yN t p 8]))else .error 700
theorem AK {c:SC} {S:SS} {h:H} {ov:AV} (st:St c S h ov) (n:Nat) (hs:n=0∨S.e≠0):
 ∃e',Lp AP.A [0,2] AP.f39L0 [(0,.aH c.s 0),(2,I n)] h=some (.exit 0,e',h):=by
 have gs:=st.gs
 refine⟨[(0,.aH c.s 0),(2,I n),(26,.bool false)],wh ?_⟩
 by_cases hn:n=0
 · have c1:¬(0:Int)<n:=by omega
   simp only[I]at *
   simp only[AP.f39L0,go_sem,QL c1]
 · have c1:(0:Int)<n:=by omega
   have c2:(S.e==0)=false:=xb (by omega)
   simp only[I]at *
   simp only[AP.f39L0,go_sem,QM c1,gs,c2]
theorem DM {c : SC} : ∀ (n : Nat) (S : SS) (h : H) (ov : AV), St c S h ov → S.e = 0 → n ≤ 65535 →
 ∃e' h' ov' S',Lp AP.A [0,2] AP.f39L0 [(0,.aH c.s 0),(2,I n)] h=some (.exit 0,e',h')∧St c S' h' ov'∧Fr c h ov h' ov'∧Fin (zG c.text c.most n S.at_ S.out) S'
 | 0, S, h, ov, st, he, hn => by
   obtain⟨e',q⟩:=AK st 0 (.inl rfl)
   exact⟨e',h,ov,S,q,st,Fr.refl _ _ _,by simp only[zG,Fin];cases S;simp_all⟩
 | n + 1, S, h, ov, st, he, hn => by
   have gs:=st.gs
   obtain⟨h1,k1,k2,k3⟩:=AW st 8 8 rfl (by omega)
   have gs1:=k2.gs
   have c1:(0:Int)<((n+1:Nat):Int):=by omega
   have w1:IntKind.wrap .i64 (((n+1:Nat):Int)-1)=(n:Int):=by rw[show((n+1:Nat):Int)-1=(n:Int)by omega];exact yJ (by omega)
   by_cases hp:S.at_+8≤8* c.text.size
   · have eg:yP c 8 S=(yN c.text S.at_ 8,{S with at_:=S.at_+8}):=by rw[yP,if_pos hp]
     rw[eg]at k1 k2 gs1
     dsimp only at k1 k2 gs1
     obtain⟨h2,ov2,p1,p2,p3⟩:=Iw k2 (b:=yN c.text S.at_ 8)
     have hb:=zg c.text S.at_ 8
     have w2:IntKind.wrap .u8 ((yN c.text S.at_ 8:Nat):Int)=((yN c.text S.at_ 8:Nat):Int):=wrap_u8 (by simpa using hb)
     have step:aP (aV AP.A) bL AP.f39L0 (aC [(0,.aH c.s 0),(2,I (n+1:Nat))] [0,2]) h=some (.normal,[(0,.aH c.s 0),(2,I n)],h2):=by
      simp only[I]at *
      simp only[AP.f39L0,go_sem,QM c1,gs,he,k1,gs1,w2,p1,w1]
     rw[zG,if_pos hp]
     by_cases hm:c.most≤S.out.length
     · rw[if_pos hm]
       have hl:=CF (c:=c) (S:={S with at_:=S.at_+8}) (yN c.text S.at_ 8) he hm
       obtain⟨e',q⟩:=AK p2 n (.inr (by rw[hl];decide))
       exact⟨e',h2,ov2,_,wj step q,p2,k3.trans p3,hl,by decide⟩
     · rw[if_neg hm]
       rw[EX (S:={S with at_:=S.at_+8}) _ he hm]at p2
       obtain⟨e',h',ov',S',q1,q2,q3,q4⟩:=DM n _ h2 ov2 p2 rfl (by omega)
       exact⟨e',h',ov',S',wj step q1,q2,(k3.trans p3).trans q3,q4⟩
   · have eg:yP c 8 S=(0,{S with e:=700}):=by rw[yP,if_neg hp,yQ,if_pos he]
     rw[eg]at k1 k2 gs1
     dsimp only at k1 k2 gs1
     have step:aP (aV AP.A) bL AP.f39L0 (aC [(0,.aH c.s 0),(2,I (n+1:Nat))] [0,2]) h=some (.normal,[(0,.aH c.s 0),(2,I n)],h1):=by
      simp only[I]at *
      simp only[AP.f39L0,go_sem,QM c1,gs,he,k1,gs1,w1]
     rw[zG,if_neg hp]
     obtain⟨e',q⟩:=AK k2 n (.inr (by simp))
     exact⟨e',h1,ov,_,wj step q,k2,k3,rfl,by decide⟩
def Az (t:ByteArray) (most:Int) (p0:Nat) (out:List Nat):Rs:=
 let p:=(p0+7)/8* 8
 if p+32≤8* t.size then(if yN t p 16+yN t (p+16) 16=65535 then zG t most (yN t p 16) (p+32) out else .error 700)else .error 700
theorem FW {n:Nat} (hn:n<65536):bits .xor .i64 (n:Int) 65535=((65535-n:Nat):Int):=by
 have h1:n<2^16:=by simpa using hn
 show IntKind.wrap .i64 (((BitVec.ofInt 64 (n:Int)^^^BitVec.ofInt 64 ((65535:Nat):Int)).toNat:Nat):Int)=_
 rw[BitVec.toNat_xor,zM 64 n (by omega),zM 64 65535 (by omega)]
 have h2:n^^^65535=65535-n:=by
  have:65535-n=2^16-(n+1):=by omega
  rw[this]
  apply Nat.eq_of_testBit_eq
  intro i
  rw[Nat.testBit_two_pow_sub_succ h1,Nat.testBit_xor,show 65535=2^16-1 from rfl,Nat.testBit_two_pow_sub_one]
  by_cases hi:i<16
  · simp [hi]
  · have:n.testBit i=false:=Nat.testBit_lt_two_pow (Nat.lt_of_lt_of_le h1 (QO (by omega) (by omega)))
    simp [hi,this]
 rw[h2];exact yJ (by omega)
theorem St.align {c:SC} {S:SS} {h:H} {ov:AV} (st:St c S h ov):∃h',aV AP.A 16 [.aH c.r 0] h=some (I 0,h')∧St c {S with at_:=(S.at_+7)/8* 8} h' ov∧Fr c h ov h' ov:=by
 have hle:=st.zC
 have:=st.MT (p:=(S.at_+7)/8* 8) (by omega)
 exact⟨_,Ji h c.r c.text S.at_ st.gr st.fr st.sz st.zC,this.1,this.2⟩
theorem I5 {c : SC} {S : SS} {h : H} {ov : AV} (st : St c S h ov) (he : S.e = 0) :
 ∃h' ov' S',aV AP.A 39 [.aH c.s 0] h=some (.cf [],h')∧St c S' h' ov'∧Fr c h ov h' ov'∧Fin (Az c.text c.most S.at_ S.out) S':=by
 have gs:=st.gs
 obtain⟨h1,a1,a2,a3⟩:=st.align
 obtain⟨p,hp⟩:∃p,p=(S.at_+7)/8* 8:=⟨_,rfl⟩
 rw[←hp]at a2
 have hS:Az c.text c.most S.at_ S.out=if p+32≤8* c.text.size then(if yN c.text p 16+yN c.text (p+16) 16=65535 then zG c.text c.most (yN c.text p 16) (p+32) S.out else .error 700)else .error 700:=by
  rw[hp];rfl
 rw[hS];clear hS
 obtain⟨h2,b1,b2,b3⟩:=AW a2 16 16 rfl (by omega)
 obtain⟨h3,d1,d2,d3⟩:=AW b2 16 16 rfl (by omega)
 obtain⟨n,hn⟩:∃n,n=(yP c 16 {S with at_:=p}).1:=⟨_,rfl⟩
 obtain⟨S2,hS2⟩:∃n,n=(yP c 16 {S with at_:=p}).2:=⟨_,rfl⟩
 obtain⟨m,hm⟩:∃n,n=(yP c 16 S2).1:=⟨_,rfl⟩
 obtain⟨S3,hS3⟩:∃n,n=(yP c 16 S2).2:=⟨_,rfl⟩
 rw[←hn]at b1;rw[←hS2]at b2 d1 d2;rw[←hm]at d1;rw[←hS3]at d2
 have hn16:n<65536:=by
  rw[hn];unfold yP;split
  · simpa using zg c.text p 16
  · simp
 have x1:=FW hn16
 by_cases hx:m=65535-n
 · have c1:((m:Int) !=((65535-n:Nat):Int))=false:=xe (by omega)
   have fin:∀e' h',Lp AP.A [0,2] AP.f39L0 [(0,.aH c.s 0),(2,I n)] h3=some (.exit 0,e',h')→aV AP.A 39 [.aH c.s 0] h=some (.cf [],h'):=by
    intro e' h' q
    refine zh (fn:=AP.f39) (e:=[]) rfl rfl rfl ?_ rfl
    simp only[I]at *
    simp only[AP.f39,go_sem,vp,gs,a1,b1,d1,x1,c1,q]
   by_cases h32:p+32≤8* c.text.size
   · have e2:yP c 16 {S with at_:=p}=(yN c.text p 16,{S with at_:=p+16}):=by rw[yP,if_pos (by show p+16≤_;omega)]
     rw[e2]at hn hS2;dsimp only at hn hS2;subst hS2
     have e3:yP c 16 {S with at_:=p+16}=(yN c.text (p+16) 16,{S with at_:=p+16+16}):=by rw[yP,if_pos (by show p+16+16≤_;omega)]
     rw[e3]at hm hS3;dsimp only at hm hS3;subst hS3
     rw[if_pos h32,←hn,←hm,if_pos (by omega)]
     obtain⟨e',h',ov',S',q1,q2,q3,q4⟩:=DM n _ h3 ov d2 he (by omega)
     exact⟨h',ov',S',fin e' h' q1,q2,((a3.trans b3).trans d3).trans q3,q4⟩
   · rw [if_neg h32]
     have he3:S3.e=700:=by
      rw[hS3,hS2]
      unfold yP
      by_cases q1:p+16≤8* c.text.size
      · simp only[if_pos q1]
        rw[if_neg (by omega)];simp [yQ,he]
      · simp only[if_neg q1,yQ,he,if_true]
        split<;>simp
     obtain⟨e',q⟩:=AK d2 n (.inr (by rw[he3];decide))
     exact⟨h3,ov,S3,fin e' h3 q,d2,(a3.trans b3).trans d3,he3,by decide⟩
 · have c1:((m:Int) !=((65535-n:Nat):Int))=true:=xh (by omega)
   obtain⟨h4,f1,f2,f3⟩:=zP d2 700
   have he4:(yQ 700 S3).e=700:=by
    have:S3.e=0∨S3.e=700:=by
     rw[hS3,hS2]
     unfold yP
     by_cases q1:p+16≤8* c.text.size
     · simp only[if_pos q1]
       split<;>simp [yQ,he]
     · simp only[if_neg q1,yQ,he,if_true]
       split<;>simp
    rcases this with q|q<;>simp [yQ,q]
   obtain⟨e',q⟩:=AK f2 n (.inr (by rw[he4];decide))
   refine⟨h4,ov,yQ 700 S3, ?_,f2,((a3.trans b3).trans d3).trans f3, ?_⟩
   · refine zh (fn:=AP.f39) (e:=[]) rfl rfl rfl ?_ rfl
     simp only[I]at *
     simp only[AP.f39,go_sem,vp,gs,a1,b1,d1,x1,c1,f1,q]
   · by_cases h32:p+32≤8* c.text.size
     · have e2:yP c 16 {S with at_:=p}=(yN c.text p 16,{S with at_:=p+16}):=by rw[yP,if_pos (by show p+16≤_;omega)]
       rw[e2]at hn hS2;dsimp only at hn hS2;subst hS2
       have e3:yP c 16 {S with at_:=p+16}=(yN c.text (p+16) 16,{S with at_:=p+16+16}):=by rw[yP,if_pos (by show p+16+16≤_;omega)]
       rw[e3]at hm hS3;dsimp only at hm hS3
       rw[if_pos h32,←hn,←hm,if_neg (by omega)]
       exact⟨he4,by decide⟩
     · rw[if_neg h32];exact⟨he4,by decide⟩
def Bi (most:Int) (d:Nat):Nat→List Nat→Except Int (List Nat)
 |0,out=>.ok out
 |n+1,out=>if most≤out.length then .error 701 else Bi most d n (out++[out.getD (out.length-d) 0])
theorem AU {c:SC} {S:SS} {h:H} {ov:AV} (st:St c S h ov) (n d:Nat) (hs:n=0∨S.e≠0):
 ∃e',Lp AP.A [0,6,8] AP.f61L0 [(0,.aH c.s 0),(6,I n),(8,I d)] h=some (.exit 0,e',h):=by
 have gs:=st.gs
 refine⟨[(0,.aH c.s 0),(6,I n),(8,I d),(53,.bool false)],wh ?_⟩
 by_cases hn:n=0
 · have c1:¬(0:Int)<n:=by omega
   simp only[I]at *
   simp only[AP.f61L0,go_sem,QL c1]
 · have c1:(0:Int)<n:=by omega
   have c2:(S.e==0)=false:=xb (by omega)
   simp only[I]at *
   simp only[AP.f61L0,go_sem,QM c1,gs,c2]
theorem pP.elem {h:H} {v:AV} {cs:List AV} (o:pP h v cs) {i:Nat} {x:AV} (hx:cs[i]?=some x):∃id,v=.aI id 0 cs.length 1∧iy 1 v (I i)=some (.aH id i)∧h.get id=some cs:=by
 have hi:i<cs.length:=(xW.1 hx).1
 rcases o with ⟨rfl,rfl⟩|⟨id,rfl,h1,_⟩
 · simp at hi
 · exact⟨id,rfl,by simp [iy,mI hi],h1⟩
theorem GC {l:List Nat} {i:Nat} (h:i<l.length):(DR l)[i]?=some (.int .u8 (l.getD i 0:Nat)):=by
 simp [DR,yw,h,List.getD]
theorem D9 {c:SC} (d:Nat) (hd:0<d):∀(n:Nat) (S:SS) (h:H) (ov:AV),St c S h ov→S.e=0→d≤S.out.length→n≤65535→
 ∃ e' h' ov' S', Lp AP.A [0, 6, 8] AP.f61L0 [(0, .aH c.s 0), (6, I n), (8, I d)] h = some (.exit 0, e', h') ∧ St c S' h' ov' ∧ Fr c h ov h' ov' ∧ match Bi c.most d n S.out with
   | .ok o=>S'={S with out:=o}
   | .error k=>S'.e=k∧k≠0
 | 0, S, h, ov, st, he, hl, hn => by
   obtain⟨e',q⟩:=AU st 0 d (.inl rfl)
   exact⟨e',h,ov,S,q,st,Fr.refl _ _ _,by simp only[Bi]⟩
 | n + 1, S, h, ov, st, he, hl, hn => by
   have gs:=st.gs
   have hol:=st.ol
   have hml:=st.ml
   have ln:=st.own.len
   rw[zT]at ln
   have c1:(0:Int)<((n+1:Nat):Int):=by omega
   have w1:IntKind.wrap .i64 (((n+1:Nat):Int)-1)=(n:Int):=by rw[show((n+1:Nat):Int)-1=(n:Int)by omega];exact yJ (by omega)
   have w2:IntKind.wrap .i64 ((S.out.length:Int)-d)=((S.out.length-d:Nat):Int):=by rw[show(S.out.length:Int)-d=((S.out.length-d:Nat):Int)by omega];exact yJ (by omega)
   have hb:=GC (l:=S.out) (i:=S.out.length-d) (by omega)
   obtain⟨id,i1,i2,i3⟩:=st.own.elem hb
   obtain⟨h2,ov2,p1,p2,p3⟩:=Iw st (b:=S.out.getD (S.out.length-d) 0)
   have step:aP (aV AP.A) bL AP.f61L0 (aC [(0,.aH c.s 0),(6,I (n+1:Nat)),(8,I d)] [0,6,8]) h=some (.normal,[(0,.aH c.s 0),(6,I n),(8,I d)],h2):=by
    clear i1
    simp only[I]at *
    simp only[AP.f61L0,go_sem,QM c1,gs,he,ln,w2,i2,i3,hb,p1,w1]
   rw[Bi]
   by_cases hm:c.most≤S.out.length
   · rw[if_pos hm]
     have hl:=CF (c:=c) (S:=S) (S.out.getD (S.out.length-d) 0) he hm
     obtain⟨e',q⟩:=AU p2 n d (.inr (by rw[hl];decide))
     exact⟨e',h2,ov2,_,wj step q,p2,p3,hl,by decide⟩
   · rw[if_neg hm]
     rw[EX _ he hm]at p2
     obtain⟨e',h',ov',S',q1,q2,q3,q4⟩:=D9 d hd n _ h2 ov2 p2 rfl (by simp;omega) (by omega)
     refine⟨e',h',ov',S',wj step q1,q2,p3.trans q3, ?_⟩
     dsimp only at q4 ⊢
     rw[he]
     exact q4
def B8 (t : ByteArray) (most : Int) (dl : List Int) (y : Nat) (p : Nat) (out : List Nat) : Rs :=
 match lenOf y with
 |none=>.error 700
 | some (least, extra) =>
   if p+extra≤8* t.size then
    match Ai t dl 15 1 0 (p+extra)with
    |none=>.error 700
    | some (z, p2) => match zY z.toNat with
      |none=>.error 700
      | some (ld, xd) =>
        if p2+xd≤8* t.size∧ld+yN t p2 xd≤out.length then
         (match Bi most (ld+yN t p2 xd) (least+yN t p extra) out with
         | .ok o=>.ok (p2+xd,o)
         | .error k=>.error k)
        else .error 700
   else .error 700
theorem I6 {l:List Int} {n:Nat} {y:Int} (h:y∈syms l n):0≤y∧y<l.length:=by
 unfold syms at h
 split at h
 · cases h
 · rw[List.mem_filterMap]at h
   obtain⟨q,hq,h⟩:=h
   split at h
   · obtain rfl:=xO h
     have:=List.mem_zipIdx hq
     omega
   · cases h
theorem HX {l:List Int} {n:Nat} {v y:Int} (h:Ap l n v=some y):0≤y∧y<l.length:=by
 unfold Ap at h
 split at h
 · exact I6 (yh h)
 · cases h
theorem Ad {t : ByteArray} {l : List Int} : ∀ {k n v p : Nat} {y : Int} {p2 : Nat}, Ai t l k n v p = some (y, p2) → 0 ≤ y ∧ y < l.length ∧ p < p2 ∧ p2 ≤ 8 * t.size
 |0,_,_,_,_,_,h=>by cases h
 | k + 1, n, v, p, y, p2, h => by
   rw[Ai]at h
   split at h
   · split at h
     · rename_i hf
       obtain⟨rfl,rfl⟩:=xR (xO h)
       have:=HX hf
       omega
     · have:=Ad h
       omega
   · cases h
theorem HO {c : SC} {S : SS} {h : H} {ov : AV} (dl : List Int) (hdl : dl.length < 100000) (st : St c S h ov) (he : S.e = 0) (y : Nat) (hy : y < 100000) :
 ∃h' ov' S',aV AP.A 61 [.aH c.s 0,I y,y8 dl] h=some (.cf [],h')∧St c S' h' ov'∧Fr c h ov h' ov'∧Fin (B8 c.text c.most dl y S.at_ S.out) S':=by
 have lo:=JE h y (by omega)
 unfold B8
 cases hlo:lenOf y with
 | none =>
   rw[hlo]at lo
   obtain⟨h1,S1,k1,k2,k3,k4⟩:=EF st he
   have gs1:=k2.gs
   have c1:(S1.e !=0)=true:=xh (by omega)
   refine⟨h1,ov,S1, ?_,k2,k3,k4,by decide⟩
   refine wF (fn:=AP.f61) (e:=[(0,.aH c.s 0),(2,y8 dl),(6,I 0),(20,.bool true)]) (vs:=[]) rfl rfl rfl ?_ rfl
   simp only[I,Bw]at *
   simp only[AP.f61,go_sem,lo,k1,gs1,c1]
 | some le =>
   obtain⟨least,extra⟩:=le
   rw[hlo]at lo
   obtain⟨b1,b2,b3⟩:=FE hlo
   obtain⟨h1,k1,k2,k3⟩:=G4 st (n:=extra) (least:=least) (by omega) (by omega)
   dsimp only
   by_cases hp:S.at_+extra≤8* c.text.size
   · have eg : yP c extra S = (yN c.text S.at_ extra, { S with at_ := S.at_ + extra }) := by rw [yP, if_pos hp]
     rw[eg]at k1 k2
     dsimp only at k1 k2
     rw[if_pos hp]
     have gs1:=k2.gs
     have hve:=zg c.text S.at_ extra
     have hve2:2^extra≤2^5:=QO (by omega) b2
     obtain⟨h2,S2,z,s1,s2,s3,s4⟩:=DO dl hdl k2 he
     have gs2:=s2.gs
     have c1:(S.e !=0)=false:=xe he
     dsimp only at s4 gs1
     cases hz:Ai c.text dl 15 1 0 (S.at_+extra)with
     | none =>
       rw[hz]at s4
       obtain⟨s4,s5⟩:=s4
       have c2:(S2.e !=0)=true:=xh (by omega)
       refine⟨h2,ov,S2, ?_,s2,k3.trans s3,s4,by decide⟩
       refine wF (fn:=AP.f61) (e:=[(0,.aH c.s 0),(6,I (least+yN c.text S.at_ extra:Nat)),(7,I z),(28,.bool true)]) (vs:=[]) rfl rfl rfl ?_ rfl
       simp only[I,Bw]at *
       simp only[AP.f61,go_sem,lo,k1,gs1,c1,s1,gs2,c2]
     | some zp =>
       obtain⟨z2,p2⟩:=zp
       rw[hz]at s4
       obtain⟨s4,s5⟩:=s4
       subst s5 s4
       have zb:=Ad hz
       obtain⟨zn,hzn⟩:∃n:Nat,z=n:=QQ zb.1
       subst hzn
       have dob:=HQ h2 zn (by omega)
       have c2:(S.e !=0)=false:=xe he
       dsimp only at gs2 ⊢
       rw[Q0]
       cases hdo:zY zn with
       | none =>
         rw[hdo]at dob
         obtain⟨h3,S3,v1,v2,v3,v4⟩:=EF s2 he
         have gs3:=v2.gs
         have ln:=v2.own.len
         rw[zT]at ln
         have hn0:¬((S3.out.length:Int)<0):=by omega
         obtain⟨e',q⟩:=AU v2 (least+yN c.text S.at_ extra) 0 (.inr (by rw[v4];decide))
         refine⟨h3,ov,S3, ?_,v2,(k3.trans s3).trans v3,v4,by decide⟩
         refine zh (fn:=AP.f61) (e:=[]) (vs:=[]) rfl rfl rfl ?_ rfl
         have q':Lp AP.A [0,6,8] AP.f61L0 [(0,.aH c.s 0),(6,I (least+yN c.text S.at_ extra:Nat)),(8,I 0)] h3=some (.exit 0,e',h3):=q
         clear q
         simp only[I,Bw]at *
         simp only[AP.f61,go_sem,vp,lo,k1,gs1,c1,s1,gs2,c2,dob,v1,gs3,ln,QL hn0,q']
       | some lx =>
         obtain⟨ld,xd⟩:=lx
         rw[hdo]at dob
         obtain⟨d1,d2,d3⟩:=Ea hdo
         obtain⟨h3,v1,v2,v3⟩:=G4 s2 (n:=xd) (least:=ld) (by omega) (by omega)
         obtain⟨x,hx⟩:∃x,x=(yP c xd {S with at_:=p2}).1:=⟨_,rfl⟩
         obtain⟨S3,hS3⟩:∃x,x=(yP c xd {S with at_:=p2}).2:=⟨_,rfl⟩
         rw[←hx]at v1;rw[←hS3]at v2
         have ho3:S3.out=S.out:=by rw[hS3];unfold yP;split<;>simp [yQ];split<;>rfl
         have gs3:=v2.gs
         have ln:=v2.own.len
         rw[zT]at ln
         dsimp only
         by_cases hbk:S3.out.length<ld+x
         · have hbk':(S3.out.length:Int)<((ld+x:Nat):Int):=by omega
           obtain⟨h4,f1,f2,f3⟩:=zP v2 700
           have he4:(yQ 700 S3).e=700:=by
            have:S3.e=0∨S3.e=700:=by
             rw[hS3];unfold yP;split
             · exact .inl he
             · right;simp [yQ,he]
            rcases this with q|q<;>simp [yQ,q]
           have hneg:¬(p2+xd≤8* c.text.size∧ld+yN c.text p2 xd≤S.out.length):=by
            intro ⟨q1,q2⟩
            have:yP c xd {S with at_:=p2}=(yN c.text p2 xd,{S with at_:=p2+xd}):=by rw[yP,if_pos q1]
            rw[this]at hx;dsimp only at hx;rw[ho3]at hbk;omega
           rw[if_neg hneg]
           obtain⟨e',q⟩:=AU f2 (least+yN c.text S.at_ extra) (ld+x) (.inr (by rw[he4];decide))
           refine⟨h4,ov,yQ 700 S3, ?_,f2,((k3.trans s3).trans v3).trans f3,he4,by decide⟩
           refine zh (fn:=AP.f61) (e:=[]) (vs:=[]) rfl rfl rfl ?_ rfl
           simp only[I,Bw]at *
           simp only[AP.f61,go_sem,vp,lo,k1,gs1,c1,s1,gs2,c2,dob,v1,gs3,ln,QM hbk',f1,q]
         · have hbk':¬(S3.out.length:Int)<((ld+x:Nat):Int):=by omega
           have fin:∀e' h',Lp AP.A [0,6,8] AP.f61L0 [(0,.aH c.s 0),(6,I (least+yN c.text S.at_ extra:Nat)),(8,I (ld+x:Nat))] h3=some (.exit 0,e',h')→aV AP.A 61 [.aH c.s 0,I y,y8 dl] h=some (.cf [],h'):=by
            intro e' h' q
            refine zh (fn:=AP.f61) (e:=[]) (vs:=[]) rfl rfl rfl ?_ rfl
            simp only[I,Bw]at *
            simp only[AP.f61,go_sem,vp,lo,k1,gs1,c1,s1,gs2,c2,dob,v1,gs3,ln,QL hbk',q]
           by_cases hp2:p2+xd≤8* c.text.size
           · have:yP c xd {S with at_:=p2}=(yN c.text p2 xd,{S with at_:=p2+xd}):=by rw[yP,if_pos hp2]
             rw[this]at hx hS3;dsimp only at hx hS3
             subst hx hS3
             dsimp only at hbk
             rw[if_pos ⟨hp2,by omega⟩]
             obtain⟨e',h',ov',S',q1,q2,q3,q4⟩:=D9 (c:=c) (ld+yN c.text p2 xd) (by omega) (least+yN c.text S.at_ extra) _ h3 ov v2 he (by dsimp only;omega) (by omega)
             refine⟨h',ov',S',fin e' h' q1,q2,((k3.trans s3).trans v3).trans q3, ?_⟩
             dsimp only at q4
             cases hcl:Bi c.most (ld+yN c.text p2 xd) (least+yN c.text S.at_ extra) S.out with
             |ok o=>rw[hcl]at q4;rw[he]at q4;exact q4
             |error k=>rw[hcl]at q4;exact q4
           · rw[if_neg (fun q=>hp2 q.1)]
             have he3:S3.e=700:=by
              rw[hS3,yP,if_neg hp2];simp [yQ,he]
             obtain⟨e',q⟩:=AU v2 (least+yN c.text S.at_ extra) (ld+x) (.inr (by rw[he3];decide))
             exact⟨h3,ov,S3,fin e' h3 q,v2,(k3.trans s3).trans v3,he3,by decide⟩
   · have eg:yP c extra S=(0,{S with e:=700}):=by rw[yP,if_neg hp,yQ,if_pos he]
     rw[eg]at k1 k2
     dsimp only at k1 k2
     rw[if_neg hp]
     have gs1:=k2.gs
     refine⟨h1,ov,_, ?_,k2,k3,rfl,by decide⟩
     refine wF (fn:=AP.f61) (e:=[(0,.aH c.s 0),(2,y8 dl),(6,I (least+0:Nat)),(20,.bool true)]) (vs:=[]) rfl rfl rfl ?_ rfl
     simp only[I,Bw]at *
     simp only[AP.f61,go_sem,lo,k1,gs1]
def zX (t : ByteArray) (most : Int) (ll dl : List Int) : Nat → Nat → List Nat → Rs
 |0,_,_=>.error 700
 | k + 1, p, out => match Ai t ll 15 1 0 p with
   |none=>.error 700
   | some (y, p1) =>
     if y<256 then(if most≤out.length then .error 701 else zX t most ll dl k p1 (out++[y.toNat]))
     else if y=256 then .ok (p1,out)
     else match B8 t most dl y.toNat p1 out with
      | .ok (p2,o)=>zX t most ll dl k p2 o
      | .error e=>.error e
theorem Fg {t : ByteArray} {most : Int} {dl : List Int} {y p : Nat} {out o : List Nat} {p2 : Nat} (h : B8 t most dl y p out = .ok (p2, o)) : p ≤ p2 ∧ p2 ≤ 8 * t.size := by
 unfold B8 at h
 split at h
 · cases h
 · split at h
   · split at h
     · cases h
     · rename_i hs
       have:=Ad hs
       split at h
       · cases h
       · split at h
         · rename_i hq
           split at h
           · have:=Q5 (fun r:Rs=>match r with| .ok q=>q.1|_=>0) h
             dsimp only at this
             omega
           · cases h
         · cases h
   · cases h
theorem Di {c:SC} {S:SS} {h:H} {ov:AV} (st:St c S h ov) (a b:AV) (hs:S.e≠0):
 ∃e',Lp AP.A [0,1,2] AP.f40L0 [(0,.aH c.s 0),(1,a),(2,b)] h=some (.exit 0,e',h):=by
 have gs:=st.gs
 refine⟨[(0,.aH c.s 0),(1,a),(2,b),(11,.bool false)],wh ?_⟩
 have c2:(S.e==0)=false:=xb hs
 simp only[I]at *
 simp only[AP.f40L0,go_sem,gs,c2]
theorem BJ {c : SC} (ll dl : List Int) (hll : ll.length < 100000) (hdl : dl.length < 100000) : ∀ (k : Nat) (S : SS) (h : H) (ov : AV), St c S h ov → S.e = 0 → 8 * c.text.size < S.at_ + k →
 ∃e' h' ov' S',(Lp AP.A [0,1,2] AP.f40L0 [(0,.aH c.s 0),(1,y8 ll),(2,y8 dl)] h=some (.ret,e',h')∨Lp AP.A [0,1,2] AP.f40L0 [(0,.aH c.s 0),(1,y8 ll),(2,y8 dl)] h=some (.exit 0,e',h'))∧St c S' h' ov'∧Fr c h ov h' ov'∧Fin (zX c.text c.most ll dl k S.at_ S.out) S'
 |0,S,h,ov,st,he,hk=>by have:=st.zC;omega
 | k + 1, S, h, ov, st, he, hk => by
   have gs:=st.gs
   obtain⟨h1,S1,z,s1,s2,s3,s4⟩:=DO ll hll st he
   rw[zX]
   cases hz:Ai c.text ll 15 1 0 S.at_ with
   | none =>
     rw[hz]at s4
     obtain⟨s4,s5⟩:=s4
     subst s5
     refine⟨[(0,.aH c.s 0),(1,y8 ll),(2,y8 dl),(6,I 256),(26,.bool true)],h1,ov,S1,.inl (wM ?_),s2,s3,s4,by decide⟩
     simp only[I]at *
     simp only[AP.f40L0,go_sem,gs,he,s1]
   | some zp =>
     obtain⟨z2,p1⟩:=zp
     rw[hz]at s4
     obtain⟨s4,s5⟩:=s4
     subst s5 s4
     have zb:=Ad hz
     obtain⟨y,hy⟩:∃n:Nat,z=n:=QQ zb.1
     subst hy
     dsimp only
     by_cases c1:(y:Int)<256
     · rw[if_pos c1]
       have w1:IntKind.wrap .u8 (y:Int)=y:=wrap_u8 (by omega)
       obtain⟨h2,ov2,p1',p2',p3'⟩:=Iw s2 (b:=y)
       have step:aP (aV AP.A) bL AP.f40L0 (aC [(0,.aH c.s 0),(1,y8 ll),(2,y8 dl)] [0,1,2]) h=some (.normal,[(0,.aH c.s 0),(1,y8 ll),(2,y8 dl)],h2):=by
        simp only[I]at *
        simp only[AP.f40L0,go_sem,gs,he,s1,QM c1,w1,p1']
       by_cases hm:c.most≤S.out.length
       · rw[if_pos hm]
         have hl:=CF (c:=c) (S:={S with at_:=p1}) y he hm
         obtain⟨e',q⟩:=Di p2' (y8 ll) (y8 dl) (by rw[hl];decide)
         exact⟨e',h2,ov2,_,.inr (wj step q),p2',s3.trans p3',hl,by decide⟩
       · rw[if_neg hm]
         rw[EX (S:={S with at_:=p1}) _ he hm]at p2'
         obtain⟨e',h',ov',S',q1,q2,q3,q4⟩:=BJ ll dl hll hdl k _ h2 ov2 p2' rfl (by dsimp only;omega)
         refine⟨e',h',ov',S', ?_,q2,(s3.trans p3').trans q3,q4⟩
         rcases q1 with q1|q1
         · exact .inl (wj step q1)
         · exact .inr (wj step q1)
     · rw [if_neg c1]
       by_cases c2:(y:Int)=256
       · rw[if_pos c2]
         refine⟨[(0,.aH c.s 0),(1,y8 ll),(2,y8 dl),(6,I y),(26,.bool true)],h1,ov,_,.inl (wM ?_),s2,s3, ?_⟩
         · have c2':=xc c2
           simp only[I]at *
           simp only[AP.f40L0,go_sem,gs,he,s1,QL c1,c2']
         · simp only[Fin];rw[he]
       · rw[if_neg c2]
         have c2':=xb c2
         obtain⟨h2,ov2,S2,r1,r2,r3,r4⟩:=HO dl hdl s2 he y (by omega)
         have step:aP (aV AP.A) bL AP.f40L0 (aC [(0,.aH c.s 0),(1,y8 ll),(2,y8 dl)] [0,1,2]) h=some (.normal,[(0,.aH c.s 0),(1,y8 ll),(2,y8 dl)],h2):=by
          simp only[I]at *
          simp only[AP.f40L0,go_sem,gs,he,s1,QL c1,c2',r1]
         dsimp only at r4
         rw[Q0]
         cases hc:B8 c.text c.most dl y p1 S.out with
         | error q =>
           rw[hc]at r4
           obtain⟨e',q'⟩:=Di r2 (y8 ll) (y8 dl) (by rw[r4.1];exact r4.2)
           exact⟨e',h2,ov2,S2,.inr (wj step q'),r2,s3.trans r3,r4⟩
         | ok q =>
           obtain⟨p2,o⟩:=q
           rw[hc]at r4
           simp only[Fin]at r4
           subst r4
           have hge:=Fg hc
           obtain⟨e',h',ov',S',q1,q2,q3,q4⟩:=BJ ll dl hll hdl k _ h2 ov2 r2 rfl (by dsimp only;omega)
           refine⟨e',h',ov',S', ?_,q2,(s3.trans r3).trans q3,q4⟩
           rcases q1 with q1|q1
           · exact .inl (wj step q1)
           · exact .inr (wj step q1)
theorem GF {c:SC} {S:SS} {h:H} {ov:AV} (ll dl:List Int) (hll:ll.length<100000) (hdl:dl.length<100000) (st:St c S h ov) (he:S.e=0):
 ∃h' ov' S',aV AP.A 40 [.aH c.s 0,y8 ll,y8 dl] h=some (.cf [],h')∧St c S' h' ov'∧Fr c h ov h' ov'∧Fin (zX c.text c.most ll dl (8* c.text.size+1) S.at_ S.out) S':=by
 obtain⟨e',h',ov',S',q1,q2,q3,q4⟩:=BJ ll dl hll hdl (8* c.text.size+1) S h ov st he (by omega)
 refine⟨h',ov',S', ?_,q2,q3,q4⟩
 rcases q1 with q1|q1
 · refine wF (fn:=AP.f40) (e:=e') (vs:=[]) rfl rfl rfl ?_ rfl
   simp only[AP.f40,go_sem,vp,q1]
 · refine zh (fn:=AP.f40) (e:=[]) (vs:=[]) rfl rfl rfl ?_ rfl
   simp only[AP.f40,go_sem,vp,q1]
theorem yV (h:H):∀id c,h.get id=some c→h.eY.get id=some c:=fun _ _ q=>q
def Dq (P:AV→Bool):List AV→Nat→Int
 |[],_=> -1
 |v::r,i=>if P v then(i:Int)else Dq P r (i+1)
theorem Fs (P:AV→Bool):∀(l:List AV) (i:Nat),(0≤Dq P l i)↔l.any P=true
 |[],i=>by simp [Dq]
 | v :: r, i => by
   rw[Dq]
   by_cases h:P v
   · rw[if_pos h];simp [h]
   · rw[if_neg h,Fs P r];simp [h]
theorem Dr {x fv : AV} {cs : List AV} (P : AV → Bool) (hP : ∀ v ∈ cs, ∀ g : H, mM (aV AP.A) [v] g fv = some (.bool (P v), g)) (hl : cs.length < 1000000000) (h : H) (rd : Rd h x cs) :
 ∀ (m i : Nat), m + i = cs.length → (∃ e', Lp AP.A [0, 1, 7, 8] AP.f84L0 [(0, x), (1, fv), (7, I cs.length), (8, I i)] h = some (.exit 0, e', h) ∧ Dq P (cs.drop i) i = -1) ∨
   ∃e',Lp AP.A [0,1,7,8] AP.f84L0 [(0,x),(1,fv),(7,I cs.length),(8,I i)] h=some (.ret,e',h)∧look e' 4=I (Dq P (cs.drop i) i)
 | 0, i, hm => by
   left
   refine⟨[(0,x),(1,fv),(7,I cs.length),(8,I i),(9,.bool false)],wh ?_,by rw[List.drop_eq_nil_of_le (by omega)];rfl⟩
   have c1:¬(i:Int)<(cs.length:Int):=by omega
   simp only[I]at *
   simp only[AP.f84L0,go_sem,QL c1]
 | m + 1, i, hm => by
   have hi:i<cs.length:=by omega
   obtain⟨v,hv⟩:∃v,cs[i]?=some v:=⟨_,Q1 hi⟩
   have hd:cs.drop i=v::cs.drop (i+1):=by
    rw[List.drop_eq_getElem_cons hi];rw[Q1 hi]at hv;rw[xO hv]
   obtain⟨p,p1,p2⟩:=rd.elem hv
   have p3:=p2 h (fun _ _ q=>q)
   have c1:(i:Int)<(cs.length:Int):=by omega
   have hPv:=hP v (yh hv) h
   have w1:IntKind.wrap .i64 ((i:Int)+1)=((i+1:Nat):Int):=yJ (n:=i+1) (by omega)
   rw[hd,Dq]
   cases hb:P v with
   | true =>
     right
     rw[hb]at hPv
     rw[if_pos rfl]
     refine⟨[(4,I i)],wM ?_,rfl⟩
     simp only[I]at *
     simp only[AP.f84L0,go_sem,QM c1,p1,p3,hPv]
   | false =>
     rw[hb]at hPv
     have step:aP (aV AP.A) bL AP.f84L0 (aC [(0,x),(1,fv),(7,I cs.length),(8,I i)] [0,1,7,8]) h=some (.normal,[(0,x),(1,fv),(7,I cs.length),(8,I (i+1:Nat))],h):=by
      simp only[I]at *
      simp only[AP.f84L0,go_sem,QM c1,p1,p3,hPv,w1]
     rw[if_neg (by decide)]
     rcases Dr P hP hl h rd m (i+1) (by omega)with ⟨e',q1,q2⟩|⟨e',q1,q2⟩
     · exact .inl ⟨e',wj step q1,q2⟩
     · exact .inr ⟨e',wj step q1,q2⟩
theorem JB {x fv:AV} {cs:List AV} (P:AV→Bool) (hP:∀v∈cs,∀g:H,mM (aV AP.A) [v] g fv=some (.bool (P v),g)) (hl:cs.length<1000000000) (h:H) (rd:Rd h x cs):
 aV AP.A 84 [x,fv] h=some (I (Dq P cs 0),h):=by
 have rd':=rd.mono (yV h)
 have ln:=rd.len
 rcases Dr P hP hl h.eY rd' cs.length 0 (by omega)with ⟨e',q1,q2⟩|⟨e',q1,q2⟩
 · rw[QX]at q2
   rw[q2]
   refine wX (fn:=AP.f84) (h2:=h.eY) (e:=[(4,I (-1))]) rfl rfl rfl ?_ rfl rfl
   have q1':Lp AP.A [0,1,7,8] AP.f84L0 [(0,x),(1,fv),(7,I cs.length),(8,I 0)] h.eY=some (.exit 0,e',h.eY):=q1
   clear q1
   simp only[I]at *
   simp only[AP.f84,go_sem,vp,ln,q1']
 · rw[QX]at q2
   refine wX (fn:=AP.f84) (h2:=h.eY) (e:=e') (vs:=[I (Dq P cs 0)]) rfl rfl rfl ?_ (by simp only[AP.f84,di,pG,q2];rfl) rfl
   have q1':Lp AP.A [0,1,7,8] AP.f84L0 [(0,x),(1,fv),(7,I cs.length),(8,I 0)] h.eY=some (.ret,e',h.eY):=q1
   clear q1
   simp only[I]at *
   simp only[AP.f84,go_sem,vp,ln,q1']
theorem Dj {x fv:AV} {cs:List AV} (P:AV→Bool) (hP:∀v∈cs,∀g:H,mM (aV AP.A) [v] g fv=some (.bool (P v),g)) (hl:cs.length<1000000000) (h:H) (rd:Rd h x cs):
 aV AP.A 83 [x,fv] h=some (.bool (cs.any P),h):=by
 have k1:=JB P hP hl h.eY (rd.mono (yV h))
 have ha:=Fs P cs 0
 refine wX (fn:=AP.f83) (h2:=h.eY) (e:=[(4,.bool (cs.any P))]) rfl rfl rfl ?_ rfl rfl
 cases hb:cs.any P with
 | true =>
   have c1:0≤Dq P cs 0:=ha.2 hb
   simp only[I]at *
   simp only[AP.f83,go_sem,k1,QM c1]
 | false =>
   have c1:¬0≤Dq P cs 0:=by rw[ha,hb];decide
   simp only[I]at *
   simp only[AP.f83,go_sem,k1,QL c1]
def BH (v:AV):Bool:=match v with| .int _ n=>decide (n<0)||decide (15<n)|_=>true
theorem Np (n:Int) (h:H):aV AP.A 82 [I n] h=some (.bool (BH (I n)),h):=by
 by_cases c1:n<0
 · refine wX (fn:=AP.f82) (h2:=h.eY) (e:=[(2,.bool true)]) rfl rfl rfl ?_ rfl ?_
   · simp only[I]at *
     simp only[AP.f82,go_sem,QM c1]
   · simp [BH,I,c1];rfl
 · refine wX (fn:=AP.f82) (h2:=h.eY) (e:=[(2,.bool (decide (15<n)))]) rfl rfl rfl ?_ rfl ?_
   · simp only[I]at *
     simp only[AP.f82,go_sem,QL c1]
   · simp [BH,I,c1];rfl
def CX (l:List Int):Bool:=decide (1≤l.length)&&decide (l.length≤288)&& !((ints l).any BH)
theorem PN (h:H) (x:AV) (l:List Int) (hl:l.length<100000) (rd:Rd h x (ints l)):aV AP.A 81 [x] h=some (.bool (CX l),h):=by
 have hP:∀v∈ints l,∀g:H,mM (aV AP.A) [v] g (.fn 82 [] [])=some (.bool (BH v),g):=by
  intro v hv g
  obtain⟨n,_,rfl⟩:=List.mem_map.1 hv
  rw[qa];exact Np n g
 have k1:=Dj BH hP (by simp;omega) h.eY (rd.mono (yV h))
 have ln:=rd.len
 rw[sD]at ln
 refine wX (fn:=AP.f81) (h2:=h.eY) (e:=[(2,.bool (CX l))]) rfl rfl rfl ?_ rfl rfl
 unfold CX
 by_cases c1:1≤l.length
 · have c1':(1:Int)≤(l.length:Int):=by omega
   by_cases c2:l.length≤288
   · have c2':(l.length:Int)≤288:=by omega
     simp only[I]at *
     simp only[AP.f81,go_sem,ln,QM c1',QM c2',QM c1,QM c2,k1,Bool.true_and]
   · have c2':¬(l.length:Int)≤288:=by omega
     simp only[I]at *
     simp only[AP.f81,go_sem,ln,QM c1',QL c2',QM c1,QL c2,Bool.true_and,QZ]
 · have c1':¬(1:Int)≤(l.length:Int):=by omega
   simp only[I]at *
   simp only[AP.f81,go_sem,ln,QL c1',QL c1,QZ]
def ze (l:List Int):Int:=if CX l=false then 300 else if zd l 15<0 then 301 else if 0<zd l 15 then 302 else 0
theorem Es {l:List Int} (h:CX l=true):∀y∈l,0≤y∧y<16:=by
 intro y hy
 simp only[CX,yc,Bool.not_eq_true',List.any_eq_false]at h
 have:=h.2 (I y) (List.mem_map.2 ⟨y,hy,rfl⟩)
 simp [BH,I]at this
 omega
theorem EL (h : H) (x : AV) (l : List Int) (hl : l.length < 100000) (rd : Rd h x (ints l)) : aV AP.A 65 [x] h = some (I (ze l), h) := by
 have rd':=rd.mono (yV h)
 have k1:=PN h.eY x l hl rd'
 unfold ze
 by_cases hm:CX l=true
 · have k2:=BR h.eY x l hl (Es hm) rd'
   have hb:y8 l=.aO (pQ 49 (zW l)) 0:=rfl
   have g:(pQ 49 (zW l))[48]?=some (I (zd l 15)):=by rw[ik (by omega)];rfl
   rw[hb]at k2
   clear hb
   generalize pQ 49 (zW l)=T at k2 g
   rw[hm]at k1 ⊢
   rw[if_neg (by decide)]
   by_cases c1:zd l 15<0
   · rw[if_pos c1]
     refine wX (fn:=AP.f65) (h2:=h.eY) (e:=[(2,I 301)]) rfl rfl rfl ?_ rfl rfl
     simp only[I]at *
     simp only[AP.f65,go_sem,k1,k2,g,QM c1]
   · rw[if_neg c1]
     by_cases c2:0<zd l 15
     · rw[if_pos c2]
       refine wX (fn:=AP.f65) (h2:=h.eY) (e:=[(2,I 302)]) rfl rfl rfl ?_ rfl rfl
       simp only[I]at *
       simp only[AP.f65,go_sem,k1,k2,g,QL c1,QM c2]
     · rw[if_neg c2]
       refine wX (fn:=AP.f65) (h2:=h.eY) (e:=[(2,I 0)]) rfl rfl rfl ?_ rfl rfl
       simp only[I]at *
       simp only[AP.f65,go_sem,k1,k2,g,QL c1,QL c2]
 · have hm':CX l=false:=by simpa using hm
   rw[hm']at k1 ⊢
   rw[if_pos rfl]
   refine wX (fn:=AP.f65) (h2:=h.eY) (e:=[(2,I 300)]) rfl rfl rfl ?_ rfl rfl
   simp only[I]at *
   simp only[AP.f65,go_sem,k1]
def Gt:List Int→Int→Int
 |[],s=>s
 |x::r,s=>Gt r (s+x)
theorem CU {x:AV} {l:List Int} (hl:l.length<100000) (hr:∀y∈l,0≤y∧y<16) (h:H) (rd:Rd h x (ints l)):
 ∀(q p:List Int) (s:Int),l=p++q→0≤s→s≤16* p.length→∃e',Lp AP.A [3,6,7,8] AP.f66L0 [(3,I s),(6,x),(7,I l.length),(8,I p.length)] h=some (.exit 0,e',h)∧look e' 3=I (Gt q s)
 | [], p, s, hpq, hs0, hs1 => by
   refine⟨[(3,I s),(6,x),(7,I l.length),(8,I p.length),(9,.bool false)],wh ?_,rfl⟩
   have c1:¬(p.length:Int)<(l.length:Int):=by rw[hpq];simp
   simp only[I]at *
   simp only[AP.f66L0,go_sem,QL c1]
 | y :: q, p, s, hpq, hs0, hs1 => by
   have hlen:l.length=p.length+(q.length+1):=by rw[hpq];simp
   have c1:(p.length:Int)<(l.length:Int):=by omega
   have hy:=hr y (by rw[hpq];simp)
   have hv:(ints l)[p.length]?=some (I y):=vP (by rw[hpq];simp)
   obtain⟨a,p1,p2⟩:=rd.elem hv
   have p3:=p2 h (fun _ _ q=>q)
   have w1:IntKind.wrap .i64 (s+y)=s+y:=wJ (by omega) (by omega)
   have w2:IntKind.wrap .i64 ((p.length:Int)+1)=(((p++[y]).length:Nat):Int):=by
    rw[yH];exact yJ (n:=p.length+1) (by omega)
   have step:aP (aV AP.A) bL AP.f66L0 (aC [(3,I s),(6,x),(7,I l.length),(8,I p.length)] [3,6,7,8]) h=some (.normal,[(3,I (s+y)),(6,x),(7,I l.length),(8,I (p++[y]).length)],h):=by
    simp only[I]at *
    simp only[AP.f66L0,vI,tT,tQ,tS,tR,qW,vX,vW,vJ,vK,vM,vL,vF,vH,vE,vD,vw,vA,u5,u6,sR,pR,oW,pf,nE,vt,vq,rf,rh,vZ,uI,vU,uo,qP,qL,Nat.reduceEqDiff,ne_eq,not_false_eq_true,od,nU,QM c1,p1,p3,w1,w2]
   obtain⟨e',q1,q2⟩:=CU hl hr h rd q (p++[y]) (s+y) (by rw[hpq];simp) (by omega) (by simp;omega)
   exact⟨e',wj step q1,q2⟩
def zu (l:List Int):Bool:=decide (Gt l 0≤1)
theorem II (h:H) (x:AV) (l:List Int) (hl:l.length<100000) (hr:∀y∈l,0≤y∧y<16) (rd:Rd h x (ints l)):aV AP.A 66 [x] h=some (.bool (zu l),h):=by
 have rd':=rd.mono (yV h)
 have ln:=rd.len
 rw[sD]at ln
 obtain⟨e',q1,q2⟩:=CU hl hr h.eY rd' l [] 0 rfl (by omega) (by simp)
 have q1':Lp AP.A [3,6,7,8] AP.f66L0 [(3,I 0),(6,x),(7,I l.length),(8,I 0)] h.eY=some (.exit 0,e',h.eY):=q1
 clear q1
 refine wX (fn:=AP.f66) (h2:=h.eY) (e:=[(2,.bool (zu l))]) rfl rfl rfl ?_ rfl rfl
 simp only[I,zu]at *
 simp only[AP.f66,go_sem,vp,ln,q1',q2]
theorem DP {n:Nat} (h:n<18446744073709551616):IntKind.wrap .u64 (n:Int)=n:=by
 have e:IntKind.wrap .u64 (n:Int)=(n:Int)%18446744073709551616:=by simp [IntKind.wrap,IntKind.bits,IntKind.signed]
 rw[e];omega
theorem Da {a:Nat} (ha:a<4294967296):bits .and .u64 (a:Int) 4294967295=(a:Int):=by
 show IntKind.wrap .u64 (((BitVec.ofInt 64 (a:Int)&&&BitVec.ofInt 64 ((4294967295:Nat):Int)).toNat:Nat):Int)=_
 rw[BitVec.toNat_and,zM 64 a (by omega),zM 64 4294967295 (by omega)]
 rw[show 4294967295=2^32-1 from rfl,Nat.and_two_pow_sub_one_eq_mod,Nat.mod_eq_of_lt (by simpa using ha)]
 exact DP (by omega)
theorem GW {a:Nat} (ha:a<4294967296):rL .shr .u64 (a:Int) 32=some (.int .u64 0):=by
 have:(a:Int).fdiv 4294967296=0:=by rw[Int.fdiv_eq_ediv_of_nonneg _ (by omega)];omega
 simp [rL,IntKind.bits,this]
theorem JH (h:H) (a b:Nat) (ha:a<4294967296) (hb:b<4294967296) (hab:a* b<4294967296):aV AP.A 78 [.int .u64 a,.int .u64 b] h=some (.cf [.int .u64 0,.int .u64 (a* b:Nat)],h):=by
 have a1:=Da ha
 have a2:=Da hb
 have s1:=GW ha
 have s2:=GW hb
 have s3:=GW hab
 have w1:IntKind.wrap .u64 ((a:Int)* b)=((a* b:Nat):Int):=by rw[show(a:Int)* b=((a* b:Nat):Int)by simp];exact DP (by omega)
 have w0:IntKind.wrap .u64 0=0:=by decide
 have z1:(0:Int)* b=0:=by omega
 have z2:(a:Int)* 0=0:=by omega
 have s0:rL .shr .u64 0 32=some (.int .u64 0):=GW (a:=0) (by omega)
 have a0:bits .and .u64 0 4294967295=0:=Da (a:=0) (by omega)
 refine wX (fn:=AP.f78) (h2:=h.eY) (e:=[(4,.int .u64 0),(5,.int .u64 (a* b:Nat))]) rfl rfl rfl ?_ rfl rfl
 simp only[AP.f78,go_sem,a1,a2,s1,s2,s3,w1,w0,z1,z2,s0,a0,Int.zero_mul,Int.add_zero]
theorem PO (h:H) (a b:Nat) (ha:a<4294967296) (hb:b<4294967296) (hab:a* b<4294967296):aV AP.A 63 [.int .u64 a,.int .u64 b] h=some (.cf [.int .u64 0,.int .u64 (a* b:Nat)],h):=by
 have k:=JH h.eY a b ha hb hab
 refine wX (fn:=AP.f63) (h2:=h.eY) (e:=[(4,.int .u64 0),(5,.int .u64 (a* b:Nat))]) rfl rfl rfl ?_ rfl rfl
 simp only[AP.f63,go_sem,k]
theorem AO:∀(B V A C:List AV),V.length=B.length→setFrom (A++(B++C)) A.length V=A++(V++C)
 |[],[],A,C,_=>rfl
 | b :: B, v :: V, A, C, h => by
   rw[rK]
   have h1:(A++(b::B++C)).set A.length v=(A++[v])++(B++C):=by
    rw[List.set_append_right _ _ (ya _)];simp
   rw[h1]
   have h2:=AO B V (A++[v]) C (by simpa using h)
   rw[yH]at h2
   rw[show A.length+1=A.length+[v].length by rfl,h2];simp
 |[],v::V,A,C,h=>by simp at h
 |b::B,[],A,C,h=>by simp at h
theorem G9 (n:Nat) {v:AV} (hv:v.sc=true):AV.aG (List.replicate n v)=true:=by
 induction n with
 |zero=>rfl
 |succ n ih=>rw[List.replicate_succ,sZ,hv,ih];rfl
theorem Gq (v:AV):∀n,eQ n [v]=List.replicate n v
 |0=>rfl
 |n+1=>by rw[eQ,Gq v n];rfl
theorem FO {k y:Nat} (h:k≤y):mC (I k) y=some k:=by
 simp [mC,pX,I];omega
theorem F3 {h:H} {id N k:Nat} {cs:List AV} (hg:h.get id=some cs) (hN:cs.length=N) (hk:k≤N):vi h 1 (.aI id 0 N 1) (some (I k)) none none=some (.aI id k (N-k) 1):=by
 simp [vi,hg,hN,aF,FO hk]
theorem EJ {h:H} {id N M k:Nat} {cs:List AV} (hg:h.get id=some cs) (hN:cs.length=N) (hM:M≤N) (hk:k≤N):vi h 1 (.aI id 0 M 1) none (some (I k)) none=some (.aI id 0 k 1):=by
 have:mC (I k) N=some k:=FO hk
 simp [vi,hg,hN,aF,this,hM]
def Bc (v:AV) (k N:Nat):List AV:=List.replicate k v++List.replicate (N-k) (I 0)
theorem Iy {v:AV} {k N:Nat} (h:k≤N):(Bc v k N).length=N:=by simp [Bc];omega
theorem FM {v:AV} {k N m:Nat} (h:k+m≤N):setFrom (Bc v k N) k (List.replicate m v)=Bc v (k+m) N:=by
 have e:List.replicate (N-k) (I 0)=List.replicate m (I 0)++List.replicate (N-(k+m)) (I 0):=by
  rw[List.replicate_append_replicate];congr 1;omega
 have:=AO (List.replicate m (I 0)) (List.replicate m v) (List.replicate k v) (List.replicate (N-(k+m)) (I 0)) (by simp)
 rw[QV]at this
 rw[Bc,e,this,Bc,←List.append_assoc,List.replicate_append_replicate]
theorem CT (v : AV) (hv : v.sc = true) (N id : Nat) (hN : N < 1000000000) : ∀ (f k : Nat) (h : H), N - k ≤ f → 0 < k → k ≤ N → h.get id = some (Bc v k N) → h.floor ≤ id →
 ∃e' h',Lp AP.A [7,8] AP.f43L0 [(7,.aI id 0 N 1),(8,I k)] h=some (.exit 0,e',h')∧look e' 7=.aI id 0 N 1∧h'.get id=some (Bc v N N)∧h'.next=h.next
 | f, k, h, hf, hk, hkN, hg, hfl => by
   by_cases hlt:k<N
   · have c1:(k:Int)<(N:Int):=by omega
     have hlen:=Iy (v:=v) hkN
     have s1:=F3 hg hlen hkN
     have s2:=EJ hg hlen (ya N) hkN
     obtain⟨m,hm⟩:∃m,m=Nat.min k (N-k):=⟨_,rfl⟩
     have hm1:0<m∧m≤k∧k+m≤N:=by
      rw[hm];have:Nat.min k (N-k)=min k (N-k):=rfl
      rw[this];omega
     have hsrc:aW h 1 (.aI id 0 k 1)=some (k,List.replicate k v):=by
      simp only[aW,if_true,hg,xX]
      rw[if_pos (by rw[hlen];omega)]
      simp [Bc]
     have cp:jr h 1 (.aI id k (N-k) 1) (.aI id 0 k 1)=some (I m,h.set id (Bc v (k+m) N)):=by
      unfold jr
      rw[hsrc,xX]
      simp only[G9 k hv,hfl,and_self,true_and,if_true,hg,xX,hlen]
      rw[if_pos (by omega),←hm,Q3,List.take_replicate,Nat.min_eq_left hm1.2.1,FM hm1.2.2];rfl
     have w1:IntKind.wrap .i64 ((k:Int)+m)=((k+m:Nat):Int):=by rw[show(k:Int)+m=((k+m:Nat):Int)by omega];exact yJ (by omega)
     have al:j6 false (.aI id 0 N 1)=some (I N):=rfl
     have step:aP (aV AP.A) bL AP.f43L0 (aC [(7,.aI id 0 N 1),(8,I k)] [7,8]) h=some (.normal,[(7,.aI id 0 N 1),(8,I (k+m:Nat))],h.set id (Bc v (k+m) N)):=by
      simp only[I]at *
      simp only[AP.f43L0,go_sem,al,QM c1,QN,QP,s1,s2,cp,w1]
     match f,hf with
     |0,hf=>omega
     | f + 1, hf =>
       obtain⟨e',h',q1,q2,q3,q4⟩:=CT v hv N id hN f (k+m) (h.set id (Bc v (k+m) N)) (by omega) (by omega) (by omega) (by rw[H.eh,if_pos rfl,hg];rfl) (by simpa using hfl)
       exact⟨e',h',wj step q1,q2,q3,by rw[q4];simp⟩
   · have hkN':k=N:=by omega
     subst hkN'
     have c1:¬(k:Int)<(k:Int):=by omega
     have al:j6 false (.aI id 0 k 1)=some (I k):=rfl
     refine⟨[(7,.aI id 0 k 1),(8,I k),(37,.bool false)],h,wh ?_,rfl,hg,rfl⟩
     simp only[I]at *
     simp only[AP.f43L0,go_sem,al,QL c1]
theorem AZ (h : H) (x : AV) (y : Int) (N : Nat) (hN : N < 1000000000) (rd : Rd h x [I y]) : aV AP.A 43 [x, I N] h = some (.aZ false (ints (List.replicate N y)) 0 N 1, h) := by
 have rd':=rd.mono (yV h)
 have ln:=rd.len
 have mc:=PO h.eY 1 N (by omega) (by omega) (by omega)
 rw[Nat.one_mul]at mc
 have mc':aV AP.A 63 [.int .u64 1,.int .u64 N] h.eY=some (.cf [.int .u64 0,.int .u64 N],h.eY):=mc
 clear mc
 have c0:¬(N:Int)<0:=by omega
 have w1:IntKind.wrap .u64 1=1:=by decide
 have w2:IntKind.wrap .u64 (N:Int)=N:=DP (by omega)
 have w3:IntKind.wrap .i64 (N:Int)=N:=yJ (by omega)
 have c1:¬(0:Int)<0:=by omega
 have c2:¬(9223372036854775807:Int)<(N:Int):=by omega
 obtain⟨id,hid⟩:∃i,i=h.next:=⟨_,rfl⟩
 obtain⟨g1,hg1⟩:∃g,g=h.eY.alloc (List.replicate N (I 0)):=⟨_,rfl⟩
 have e1:g1.get id=some (List.replicate N (I 0)):=by rw[hg1,H.bc,if_pos (by rw[hid];rfl)]
 have bt:bh [(29,I N),(28,.int .u64 N),(0,x),(6,.int .u64 N)] (.jU 1 8 [I 0] (.t 29) (.t 29))=some (List.replicate N (I 0),fun i=>.aI i 0 N 1):=by
  have c3:(8:Int)* N≤281474976710656:=by omega
  have c4:(N:Int)≤9223372036854775807:=by omega
  simp [bh,I,Gq,c3,c4]
 have hcp : ∃ (k : Nat) (h2 : H), jr g1 1 (.aI id 0 N 1) x = some (I k, h2) ∧ ((k = 0 ∧ N = 0) ∨ (k = 1 ∧ 0 < N)) ∧ h2.get id = some (Bc (I y) k N) ∧ h2.floor = h.next ∧ h2.next = g1.next := by
  have rd2:aW g1 1 x=some (1,[I y]):=(rd.mono (fun i c q=>by rw[hg1,H.bc,if_neg (by have:=h.lt _ _ q;show i≠h.next;omega)];exact q)).1
  refine⟨Nat.min 1 N,g1.set id (Bc (I y) (Nat.min 1 N) N), ?_, ?_,by rw[H.eh,if_pos rfl,e1];rfl,by rw[hg1];simp,by simp⟩
  · unfold jr
    rw[rd2,xX]
    have hf:g1.floor≤id:=by rw[hg1,hid];simp
    have ha:AV.aG [I y]=true:=rfl
    simp only[ha,hf,and_self,true_and,if_true,e1,xX,QV]
    rw[if_pos (by omega),Q3]
    have hz:List.replicate N (I 0)=Bc (I y) 0 N:=by simp [Bc]
    rw[hz]
    have ht:[I y].take (Nat.min 1 N)=List.replicate (Nat.min 1 N) (I y):=by
     cases N with
     |zero=>rfl
     | succ n => have : Nat.min 1 (n + 1) = 1 := by show min 1 (n + 1) = 1; omega
                 rw[this];rfl
    rw[ht,FM (by show 0+min 1 N≤N;omega),ym];rfl
  · cases N with
    |zero=>left;exact⟨rfl,rfl⟩
    |succ n=>right;exact⟨by show min 1 (n+1)=1;omega,by omega⟩
 obtain⟨k,h2,cp1,cp2,cp3,cp4,cp5⟩:=hcp
 have lp:∃e' h3,Lp AP.A [7,8] AP.f43L0 [(7,.aI id 0 N 1),(8,I k)] h2=some (.exit 0,e',h3)∧look e' 7=.aI id 0 N 1∧h3.get id=some (Bc (I y) N N):=by
  rcases cp2 with ⟨rfl,rfl⟩|⟨rfl,hN0⟩
  · refine⟨[(7,.aI id 0 0 1),(8,I 0),(37,.bool false)],h2,wh ?_,rfl,cp3⟩
    have al:j6 false (.aI id 0 0 1)=some (I 0):=rfl
    simp only[I]at *
    simp only[AP.f43L0,go_sem,al,Int.natCast_zero]
  · obtain⟨e',h',q1,q2,q3,_⟩:=CT (I y) rfl N id hN N 1 h2 (by omega) (by omega) (by omega) cp3 (by rw[cp4,hid];exact ya _)
    exact⟨e',h',q1,q2,q3⟩
 obtain⟨e',h3,q1,q2,q3⟩:=lp
 refine wX (fn:=AP.f43) (h2:=h3) (e:=[(4,.aI id 0 N 1)]) (vs:=[.aI id 0 N 1]) rfl rfl rfl ?_ rfl ?_
 · have al:j6 false x=some (I 1):=ln
   have hn:h.eY.next=id:=by rw[hid];rfl
   simp only[I]at *
   simp only[AP.f43,go_sem,al,QL c0,w1,w2,w3,mc',QL c1,QL c2,bt,←hg1,hn,cp1,vp,q1,q2]
 · have hr:Bc (I y) N N=ints (List.replicate N y):=by simp [Bc,ints]
   show snap h3.get h.next 16 true (.aI id 0 N 1)=_
   unfold snap
   rw[if_neg (by omega),q3,xX,hr,if_pos (by simp)]
   have ht:((ints (List.replicate N y)).drop 0).take (N* 1)=ints (List.replicate N y):=by
    rw[QX,Q3,yC (by simp)]
   rw[ht,zJ];rfl
theorem MJ (h:H) (N:Nat) (hN0:0<N) (hN:N<1000000000):aV AP.A 76 [.aT,I N] h=some (.aI h.next 0 0 1,h.alloc (List.replicate N (I 0))):=by
 have c0:¬(N:Int)<0:=by omega
 have c1:(0:Int)<N:=by omega
 have w0:IntKind.wrap .i64 (0-0)=0:=by decide
 have w1:IntKind.wrap .i64 ((N:Int)-0)=N:=by rw[Int.sub_zero];exact yJ (by omega)
 have a1:sS .aT=some (I 0):=rfl
 have a2:j6 false .aT=some (I 0):=rfl
 have a3:vi h 1 .aT none (some (I 0)) none=some .aT:=rfl
 have a4:jq h 1 8 [I 0] .aT (I N)=some (.aI h.next 0 N 1,h.alloc (List.replicate N (I 0))):=by
  have c3:(N:Int)≤281474976710656:=by omega
  have c4:(N:Int)* 8≤281474976710656:=by omega
  have c5:roomy 8 N=true:=by simp [roomy];omega
  simp [jq,I,c3,c4,c5,Gq,hN0]
 have a5:vi (h.alloc (List.replicate N (I 0))) 1 (.aI h.next 0 N 1) none (some (I 0)) none=some (.aI h.next 0 0 1):=
  EJ (by rw[H.bc,if_pos rfl]) (by simp) (ya _) (Nat.zero_le _)
 refine wF (fn:=AP.f76) (e:=[(4,.aI h.next 0 0 1)]) rfl rfl rfl ?_ rfl
 simp only[I]at *
 simp only[AP.f76,go_sem,QL c0,QM c1,w0,w1,a1,a2,QN,QP,a3,a4,a5]
def cat (ps:List (AV×List Int)):List Int:=ps.flatMap (·.2)
theorem Ff (p:AV×List Int) (ps:List (AV×List Int)):cat (p::ps)=p.2++cat ps:=by simp [cat]
theorem B6 {h:H} {x:AV} {all:List (AV×List Int)} (rd:Rd h x (all.map (·.1))) (hp:∀p∈all,Rd h p.1 (ints p.2)) (hT:(cat all).length<1000000000) (hA:all.length<1000000000):
 ∀(ps qs:List (AV×List Int)),all=qs++ps→
 ∃e',Lp AP.A [0,3,9,10,11] AP.f62L1 [(0,x),(3,I (cat qs).length),(9,x),(10,I all.length),(11,I qs.length)] h=some (.exit 0,e',h)∧look e' 0=x∧look e' 3=I (cat all).length
 | [], qs, hq => by
   rw[QT]at hq;subst hq
   refine⟨[(0,x),(3,I (cat all).length),(9,x),(10,I all.length),(11,I all.length),(12,.bool false)],wh ?_,rfl,rfl⟩
   have c1:¬(all.length:Int)<(all.length:Int):=by omega
   simp only[I]at *
   simp only[AP.f62L1,go_sem,QL c1]
 | p :: ps, qs, hq => by
   have hlen:all.length=qs.length+(ps.length+1):=by rw[hq];simp
   have hct:(cat all).length=(cat qs).length+(p.2.length+(cat ps).length):=by rw[hq];simp [cat]
   have c1:(qs.length:Int)<(all.length:Int):=by omega
   have hv:(all.map (·.1))[qs.length]?=some p.1:=by rw[hq];simp
   obtain⟨a,p1,p2⟩:=rd.elem hv
   have p3:=p2 h (fun _ _ q=>q)
   have ln:=(hp p (by rw[hq];simp)).len
   rw[sD]at ln
   have w1:IntKind.wrap .i64 (((cat qs).length:Int)+p.2.length)=((cat (qs++[p])).length:Int):=by
    rw[show((cat qs).length:Int)+p.2.length=((cat (qs++[p])).length:Int)by simp [cat]];exact yJ (by simp [cat]at *;omega)
   have c2:¬((cat (qs++[p])).length:Int)<0:=by omega
   have w2:IntKind.wrap .i64 ((qs.length:Int)+1)=((qs++[p]).length:Int):=by
    rw[yH];exact yJ (n:=qs.length+1) (by omega)
   obtain⟨e',q1,q2,q3⟩:=B6 rd hp hT hA ps (qs++[p]) (by rw[hq];simp)
   have step:aP (aV AP.A) bL AP.f62L1 (aC [(0,x),(3,I (cat qs).length),(9,x),(10,I all.length),(11,I qs.length)] [0,3,9,10,11]) h=some (.normal,[(0,x),(3,I (cat (qs++[p])).length),(9,x),(10,I all.length),(11,I (qs++[p]).length)],h):=by
    generalize hB:(qs++[p]).length=B at *
    simp only[I]at *
    simp only[AP.f62L1,go_sem,QM c1,p1,p3,ln,w1,QL c2,w2]
   exact⟨e',wj step q1,q2,q3⟩
theorem B7 {h0 : H} {x : AV} {all : List (AV × List Int)} (rd : Rd h0 x (all.map (·.1))) (hp : ∀ p ∈ all, Rd h0 p.1 (ints p.2)) (hT : (cat all).length < 1000000000) (hA : all.length < 1000000000) (id : Nat) (hid : h0.next ≤ id) :
 ∀(ps qs:List (AV×List Int)) (h:H),all=qs++ps→h.floor≤id→h.get id=some (ints (cat qs)++List.replicate (cat ps).length (I 0))→(∀i c,h0.get i=some c→h.get i=some c)→
 ∃e' h',Lp AP.A [6,25,26,27] AP.f62L0 [(6,.aI id 0 (cat qs).length 1),(25,x),(26,I all.length),(27,I qs.length)] h=some (.exit 2,e',h')∧look e' 6=.aI id 0 (cat all).length 1∧h'.get id=some (ints (cat all))
 | [], qs, h, hq, hf, hg, hm => by
   rw[QT]at hq;subst hq
   refine⟨[(6,.aI id 0 (cat all).length 1),(25,x),(26,I all.length),(27,I all.length),(28,.bool false)],h,wh ?_,rfl,by rw[hg];simp [cat]⟩
   have c1:¬(all.length:Int)<(all.length:Int):=by omega
   simp only[I]at *
   simp only[AP.f62L0,go_sem,QL c1]
 | p :: ps, qs, h, hq, hf, hg, hm => by
   have hlen:all.length=qs.length+(ps.length+1):=by rw[hq];simp
   have hct:(cat all).length=(cat qs).length+(p.2.length+(cat ps).length):=by rw[hq];simp [cat]
   have hcq:(cat (qs++[p])).length=(cat qs).length+p.2.length:=by simp [cat]
   have c1:(qs.length:Int)<(all.length:Int):=by omega
   have hv:(all.map (·.1))[qs.length]?=some p.1:=by rw[hq];simp
   obtain⟨a,p1,p2⟩:=rd.elem hv
   have p3:=p2 h hm
   have src:=((hp p (by rw[hq];simp)).mono hm).1
   rw[sD]at src
   have w2:IntKind.wrap .i64 ((qs.length:Int)+1)=((qs++[p]).length:Int):=by
    rw[yH];exact yJ (n:=qs.length+1) (by omega)
   have hz:List.replicate (cat (p::ps)).length (I 0)=List.replicate p.2.length (I 0)++List.replicate (cat ps).length (I 0):=by
    rw[List.replicate_append_replicate,Ff,yH]
   have hap:∃h1,mV h 1 8 (.aI id 0 (cat qs).length 1) p.1=some (.aI id 0 (cat (qs++[p])).length 1,h1)∧h1.floor=h.floor∧h1.get id=some (ints (cat (qs++[p]))++List.replicate (cat ps).length (I 0))∧∀i c,h0.get i=some c→h1.get i=some c:=by
    by_cases h0':p.2.length=0
    · have hp2:p.2=[]:=List.length_eq_zero_iff.1 h0'
      refine⟨h, ?_,rfl, ?_,hm⟩
      · unfold mV
        rw[src,xX]
        unfold eT
        rw[if_pos (by simp [h0']),hcq,h0',Nat.add_zero]
      · rw[hg,Ff,hp2];simp [cat,hp2]
    · refine⟨h.set id (ints (cat (qs++[p]))++List.replicate (cat ps).length (I 0)), ?_,by simp,by rw[H.eh,if_pos rfl,hg];rfl,fun i c q=> ?_⟩
      · unfold mV
        rw[src,xX]
        have hs:setFrom (ints (cat qs)++List.replicate (cat (p::ps)).length (I 0)) (cat qs).length (ints p.2)=ints (cat (qs++[p]))++List.replicate (cat ps).length (I 0):=by
         have:=AO (List.replicate p.2.length (I 0)) (ints p.2) (ints (cat qs)) (List.replicate (cat ps).length (I 0)) (by simp)
         rw[sD]at this
         rw[hz,this];simp [cat,su]
        unfold eT
        dsimp only
        rw[if_neg h0',if_neg (by simp [lq])]
        rw[if_pos ⟨rfl,hf⟩,hg,xX,if_pos (by rw[hz];simp)]
        rw[Q3,ym,hs,hcq]
      · rw[H.eh,if_neg (by have:=h0.lt _ _ q;omega)];exact hm i c q
   obtain⟨h1,ap1,ap2,ap3,ap4⟩:=hap
   obtain⟨e',h',q1,q2,q3⟩:=B7 rd hp hT hA id hid ps (qs++[p]) h1 (by rw[hq];simp) (by rw[ap2];exact hf) ap3 ap4
   have step:aP (aV AP.A) bL AP.f62L0 (aC [(6,.aI id 0 (cat qs).length 1),(25,x),(26,I all.length),(27,I qs.length)] [6,25,26,27]) h=some (.normal,[(6,.aI id 0 (cat (qs++[p])).length 1),(25,x),(26,I all.length),(27,I (qs++[p]).length)],h1):=by
    generalize hB:(qs++[p]).length=B at *
    simp only[I]at *
    simp only[AP.f62L0,go_sem,QM c1,p1,p3,ap1,w2]
   exact⟨e',h',wj step q1,q2,q3⟩
def zj (l:List Int):AV:=.aZ false (ints l) 0 l.length 1
theorem AJ (h:H) (l:List Int):Rd h (zj l) (ints l):=by
 refine⟨?_,by intro s e;cases e⟩
 simp [aW,zj,yC]
theorem HN (h:H) (x:AV) (ps:List (AV×List Int)) (rd:Rd h x (ps.map (·.1))) (hp:∀p∈ps,Rd h p.1 (ints p.2)) (hT:(cat ps).length<1000000000) (hA:ps.length<1000000000) (h0:0<(cat ps).length):aV AP.A 62 [x] h=some (zj (cat ps),h):=by
 have rd':=rd.mono (yV h)
 have hp':∀p∈ps,Rd h.eY p.1 (ints p.2):=fun p q=>(hp p q).mono (yV h)
 have ln:=rd.len
 rw[List.length_map]at ln
 obtain⟨e1,a1,a2,a3⟩:=B6 rd' hp' hT hA ps [] rfl
 have a1':Lp AP.A [0,3,9,10,11] AP.f62L1 [(0,x),(3,I 0),(9,x),(10,I ps.length),(11,I 0)] h.eY=some (.exit 0,e1,h.eY):=a1
 clear a1
 have gc:=MJ h.eY (cat ps).length h0 hT
 obtain⟨h1,hh1⟩:∃g,g=h.eY.alloc (List.replicate (cat ps).length (I 0)):=⟨_,rfl⟩
 rw[←hh1]at gc
 obtain⟨e2,h2,b1,b2,b3⟩:=B7 rd' hp' hT hA h.next (ya _) ps [] h1 rfl (by rw[hh1];simp) (by rw[hh1,H.bc,if_pos (show h.next=h.eY.next from rfl)];rfl)
  (fun i c q=>by rw[hh1,H.bc,if_neg (by have:=h.eY.lt _ _ q;omega)];exact q)
 have b1':Lp AP.A [6,25,26,27] AP.f62L0 [(6,.aI h.next 0 0 1),(25,x),(26,I ps.length),(27,I 0)] h1=some (.exit 2,e2,h2):=b1
 clear b1
 have hn:h.eY.next=h.next:=rfl
 refine wX (fn:=AP.f62) (h2:=h2) (e:=[(2,.aI h.next 0 (cat ps).length 1)]) (vs:=[.aI h.next 0 (cat ps).length 1]) rfl rfl rfl ?_ rfl ?_
 · simp only[I]at *
   simp only[AP.f62,go_sem,ln,vp,a1',a2,a3,gc,hn,b1',b2]
 · show snap h2.get h.next 16 true (.aI h.next 0 (cat ps).length 1)=_
   unfold snap
   rw[if_neg (by omega),b3,xX,if_pos (by simp)]
   have ht:((ints (cat ps)).drop 0).take ((cat ps).length* 1)=ints (cat ps):=by
    rw[QX,Q3,yC (by simp)]
   rw[ht,zJ];rfl
def zq:List Int:=List.replicate 144 8++(List.replicate 112 9++(List.replicate 24 7++List.replicate 8 8))
theorem Ns (e:Env) (n:Int):bh e (.dw 1 1 [.int .i64 0] [(0,.c (.int .i64 n))])=some ([I n],fun i=>.aI i 0 1 1):=rfl
theorem BG (h:H) (n:Int):Rd (h.alloc [I n]) (.aI h.next 0 1 1) [I n]:=by
 refine⟨?_,by intro s e;cases e⟩
 simp [aW,H.bc]
theorem Ju (h:H):aV AP.A 42 [] h=some (zj zq,h):=by
 have r1:=AZ (h.eY.alloc [I 8]) (.aI h.eY.next 0 1 1) 8 144 (by omega) (BG _ _)
 have r2:=AZ ((h.eY.alloc [I 8]).alloc [I 9]) (.aI (h.eY.alloc [I 8]).next 0 1 1) 9 112 (by omega) (BG _ _)
 have r3:=AZ (((h.eY.alloc [I 8]).alloc [I 9]).alloc [I 7]) (.aI ((h.eY.alloc [I 8]).alloc [I 9]).next 0 1 1) 7 24 (by omega) (BG _ _)
 have r4:=AZ ((((h.eY.alloc [I 8]).alloc [I 9]).alloc [I 7]).alloc [I 8]) (.aI (((h.eY.alloc [I 8]).alloc [I 9]).alloc [I 7]).next 0 1 1) 8 8 (by omega) (BG _ _)
 obtain⟨g4,hg4⟩:∃g,g=(((h.eY.alloc [I 8]).alloc [I 9]).alloc [I 7]).alloc [I 8]:=⟨_,rfl⟩
 obtain⟨v1,hv1⟩:∃v,v=AV.aZ false (ints (List.replicate 144 8)) 0 144 1:=⟨_,rfl⟩
 obtain⟨v2,hv2⟩:∃v,v=AV.aZ false (ints (List.replicate 112 9)) 0 112 1:=⟨_,rfl⟩
 obtain⟨v3,hv3⟩:∃v,v=AV.aZ false (ints (List.replicate 24 7)) 0 24 1:=⟨_,rfl⟩
 obtain⟨v4,hv4⟩:∃v,v=AV.aZ false (ints (List.replicate 8 8)) 0 8 1:=⟨_,rfl⟩
 have hc:cat [(v1,List.replicate 144 8),(v2,List.replicate 112 9),(v3,List.replicate 24 7),(v4,List.replicate 8 8)]=zq:=by
  simp only[cat,zq,List.flatMap_cons,List.flatMap_nil,QT]
 have hfl:zq.length=288:=by simp only[zq,yH,QV]
 have cc:=HN (g4.alloc [v1,v2,v3,v4]) (.aI g4.next 0 4 1) [(v1,List.replicate 144 8),(v2,List.replicate 112 9),(v3,List.replicate 24 7),(v4,List.replicate 8 8)]
  ⟨by simp [aW,H.bc],by intro s e;cases e⟩
  (by
    intro p hp
    simp only[yE,List.not_mem_nil,or_false]at hp
    rcases hp with rfl|rfl|rfl|rfl
    · rw[hv1];exact AJ _ _
    · rw[hv2];exact AJ _ _
    · rw[hv3];exact AJ _ _
    · rw[hv4];exact AJ _ _) (by rw[hc,hfl];omega) (by simp) (by rw[hc,hfl];omega)
 rw[hc]at cc
 have bt:∀e:Env,look e 2=v1→look e 4=v2→look e 6=v3→look e 8=v4→bh e (.dw 1 4 [.aT] [(0,.t 2),(1,.t 4),(2,.t 6),(3,.t 8)])=some ([v1,v2,v3,v4],fun i=>.aI i 0 4 1):=by
  intro e q1 q2 q3 q4
  simp only[bh,QY,Q2,vt,q1,q2,q3,q4]
  rw[hv1,hv2,hv3,hv4];rfl
 refine wX (fn:=AP.f42) (h2:=g4.alloc [v1,v2,v3,v4]) (e:=[(0,zj zq)]) rfl rfl rfl ?_ rfl ?_
 · rw[←hv1]at r1;rw[←hv2]at r2;rw[←hv3]at r3;rw[←hv4]at r4
   rw[←hg4]at r4
   have r1':aV AP.A 43 [.aI h.eY.next 0 1 1,I 144] (h.eY.alloc [I 8])=some (v1,h.eY.alloc [I 8]):=r1
   have r2':aV AP.A 43 [.aI (h.eY.alloc [I 8]).next 0 1 1,I 112] ((h.eY.alloc [I 8]).alloc [I 9])=some (v2,(h.eY.alloc [I 8]).alloc [I 9]):=r2
   have r3':aV AP.A 43 [.aI ((h.eY.alloc [I 8]).alloc [I 9]).next 0 1 1,I 24] (((h.eY.alloc [I 8]).alloc [I 9]).alloc [I 7])=some (v3,((h.eY.alloc [I 8]).alloc [I 9]).alloc [I 7]):=r3
   have r4':aV AP.A 43 [.aI (((h.eY.alloc [I 8]).alloc [I 9]).alloc [I 7]).next 0 1 1,I 8] g4=some (v4,g4):=r4
   clear r1 r2 r3 r4 hv1 hv2 hv3 hv4 hc
   simp only[I]at *
   simp only[AP.f42,go_sem,Ns,I,r1',r2',r3',←hg4,r4']
   rw[bt _ rfl rfl rfl rfl]
   simp only[oL,vI,go_sem,cc]
 · simp only[dY];unfold snap zj;rfl
def y7:List Int:=[16,17,18,0,8,7,9,6,10,5,11,4,12,3,13,2,14,1,15]
theorem JL (h:H):aV AP.A 79 [] h=some (zj y7,h):=by
 have b:bh [] (.dw 1 19 [.int .i64 0] [(0,(.c (.int .i64 16))),(1,(.c (.int .i64 17))),(2,(.c (.int .i64 18))),(3,(.c (.int .i64 0))),(4,(.c (.int .i64 8))),(5,(.c (.int .i64 7))),(6,(.c (.int .i64 9))),(7,(.c (.int .i64 6))),(8,(.c (.int .i64 10))),(9,(.c (.int .i64 5))),(10,(.c (.int .i64 11))),(11,(.c (.int .i64 4))),(12,(.c (.int .i64 12))),(13,(.c (.int .i64 3))),(14,(.c (.int .i64 13))),(15,(.c (.int .i64 2))),(16,(.c (.int .i64 14))),(17,(.c (.int .i64 1))),(18,(.c (.int .i64 15)))])=some (ints y7,fun i=>.aI i 0 19 1):=rfl
 refine wX (fn:=AP.f79) (h2:=h.eY.alloc (ints y7)) (e:=[(0,.aI h.next 0 19 1)]) (vs:=[.aI h.next 0 19 1]) rfl rfl rfl ?_ rfl ?_
 · have hn:h.eY.next=h.next:=rfl
   simp only[AP.f79,go_sem,b,hn]
 · show snap (h.eY.alloc (ints y7)).get h.next 16 true (.aI h.next 0 19 1)=_
   unfold snap
   rw[if_neg (by omega),H.bc,if_pos (show h.next=h.eY.next from rfl),xX,if_pos (by decide)]
   rw[show((ints y7).drop 0).take (19* 1)=ints y7 from rfl,zJ];rfl
def Ih (c:ah) (d:Option Nat) (r:List ak) (e:Env) (p:Option (AV×H)):Option (Env×H×List H):=p.bind fun q=>aR c r (aQ d q.1 e) q.2
theorem Cy (c:ah) (d:Option Nat) (r:List ak) (e:Env) (v:AV) (h:H):Ih c d r e (some (v,h))=aR c r (aQ d v e) h:=xU rfl rfl
def Hx (aS:Bool) (h:H) (p:Option (Env×H×List H)):Option (Env×H×List H):=p.bind fun q=>some (q.1,q.2.1,if aS then h::q.2.2 else q.2.2)
theorem CE (h:H) (e:Env) (h':H) (gs:List H):Hx true h (some (e,h',gs))=some (e,h',h::gs):=xU rfl rfl
theorem CD (h:H) (e:Env) (h':H) (gs:List H):Hx false h (some (e,h',gs))=some (e,h',gs):=xU rfl rfl
theorem AY (c:ah) (e:Env) (h:H):aR c [] e h=some (e,h,[h]):=xU rfl rfl
theorem Ez (c:ah) (o:ak) (r:List ak) (e:Env) (h:H):aR c (o::r) e h=Hx o.op.aS h (Ih c o.dst r e (aj c o e h)):=by
 rw[aR]
 unfold Hx Ih
 cases hv:aj c o e h with
 |none=>rfl
 | some q =>
   obtain⟨v,h'⟩:=q
   simp only[xX]
theorem Cz (c:ah) (d:Option Nat) (op:cy) (r:List ak) (e:Env) (h:H):aR c (⟨d,op,none⟩::r) e h=Hx op.aS h (Ih c d r e (ai c e h op)):=Ez _ _ _ _ _
theorem Ir (c:ah) (d:Option Nat) (op:cy) (g:Nat) (w:Bool) (r:List ak) (e:Env) (h:H):aR c (⟨d,op,some (g,w)⟩::r) e h=Hx op.aS h (Ih c d r e (nC w c e h op (look e g))):=Ez _ _ _ _ _
theorem EH {c:ah} {l:bW} {e e':Env} {h h':H} {gs:List H} (ord:List Nat) (ops:List ak) (fl:List (Nat×List Nat)) (AH:List Nat) (h1:aR c ops e h=some (e',h',gs)) (h2:bq c ops e' gs fl=true):aP c l (.jS ord ops fl AH) e h=some (.normal,aC e' AH,h'):=by
 rw[aP,h1,xX]
 dsimp only
 rw[if_pos h2]
theorem A3 {c:ah} {ops:List ak} {e:Env} {gs:List H} {i:Nat} {ks:List Nat} {r:List (Nat×List Nat)} (h1:∀k∈ks,bU c ops e gs i k=true) (h2:bq c ops e gs r=true):bq c ops e gs ((i,ks)::r)=true:=by
 simp only[bq,yc,List.all_eq_true]
 exact⟨h1,h2⟩
theorem A1 {c:ah} {ops:List ak} {e:Env} {gs:List H} {i k:Nat} {o:ak} {g h':H} {d:Nat} {u:AV} (ho:ops[i]?=some o) (hg:gs[k]?=some g) (hb:o.op.aM=false) (hd:o.dst=some d) (hv:aj c o e g=some (u,h')) (hu:AV.beq u (look e d)=true):bU c ops e gs i k=true:=by
 unfold bU
 rw[ho,hg]
 dsimp only
 rw[hb]
 simp only[xY,yI,hd,QN,hv]
 exact hu
theorem CY (k:IntKind) (n:Int):AV.beq (.int k n) (.int k n)=true:=by simp [AV.beq]
theorem BX (i o l z:Nat):AV.beq (.aI i o l z) (.aI i o l z)=true:=by simp [AV.beq]
theorem E9 (i o:Nat):AV.beq (.aH i o) (.aH i o)=true:=by simp [AV.beq]
theorem CZ (s:ByteArray):AV.beq (.str s) (.str s)=true:=by
 have:(s==s)=true:=by
  obtain⟨d⟩:=s
  show(d==d)=true
  exact beq_self_eq_true d
 simp [AV.beq,this]
theorem pP.apps {h:H} {v:AV} {cs:List AV} (o:pP h v cs) (hfn:h.floor≤h.next) {z:Nat} (bs:List AV) (hc:AV.aG bs=true) (hb:0<bs.length) (hr:roomy z (cs.length+bs.length)=true):
 ∃v' h',eT h 1 z v bs.length bs=some (v',h')∧pP h' v' (cs++bs)∧h'.floor=h.floor∧h.next≤h'.next∧(∀i,v.id?≠some i→i≠h.next→h'.get i=h.get i)∧v'.id?=some h.next:=by
 have hne:bs≠[]:=by intro e;rw[e]at hb;simp at hb
 rcases o with ⟨rfl,rfl⟩|⟨id,rfl,hg,hf,hne'⟩
 · refine⟨.aI h.next 0 bs.length 1,h.alloc bs, ?_,.inr ⟨h.next,by simp,by simp [H.bc], ?_,by simpa using hne⟩,by simp,by simp,fun i _ hi=>by rw[H.bc,if_neg hi],rfl⟩
   · unfold eT
     rw[if_neg (by omega),if_neg (by simp [hc])]
     simp only[QU,ym]at hr
     simp only[hr,if_true]
   · simp;omega
 · refine⟨.aI h.next 0 (cs.length+bs.length) 1,(h.del id).alloc (cs++bs), ?_,.inr ⟨h.next,by simp,by simp [H.bc], ?_,by simp [hne]⟩,by simp,by simp,fun i h1 h2=> ?_,rfl⟩
   · unfold eT
     rw[if_neg (by omega),if_neg (by simp [hc])]
     simp only[hf,and_self,if_true,hg,xX]
     rw[if_neg (by omega),if_pos ⟨by omega,hr⟩]
     simp
   · have:=h.lt id cs hg;simp;omega
   · rw[H.bc,H.kM,if_neg h2,H.fg,if_neg]
     intro e;subst e;exact h1 rfl
theorem St.AH {c:SC} {S:SS} {h h':H} {ov:AV} (st:St c S h ov) (hf:h'.floor=h.floor) (hn:h.next≤h'.next) (hg:∀i,i=c.s∨i=c.r∨ov.id?=some i→h'.get i=h.get i):St c S h' ov:=by
 refine⟨by rw[hg _ (.inl rfl)];exact st.gs,by rw[hg _ (.inr (.inl rfl))];exact st.gr,st.own.mono hf fun i hi=>hg i (.inr (.inr hi)),st.sr,by rw[hf];exact st.fs,by rw[hf];exact st.fr,st.os,st.or,by rw[hf];exact yF st.nx hn,st.sz,st.zC,st.ol,st.ml⟩
theorem St.lt {c:SC} {S:SS} {h:H} {ov:AV} (st:St c S h ov) {i:Nat} (hi:i=c.s∨i=c.r∨ov.id?=some i):i<h.next:=by
 rcases hi with rfl|rfl|hi
 · exact h.lt _ _ st.gs
 · exact h.lt _ _ st.gr
 · exact st.own.lt hi
theorem St.alloc {c:SC} {S:SS} {h:H} {ov:AV} (st:St c S h ov) (cs:List AV):St c S (h.alloc cs) ov∧Fr c h ov (h.alloc cs) ov:=by
 refine⟨st.AH (by simp) (by simp) fun i hi=> ?_,⟨by simp,by simp,fun id h1 _ _ _=> ?_,fun _ q=>.inl q⟩⟩
 · have:=st.lt hi;rw[H.bc,if_neg (by omega)]
 · rw[H.bc,if_neg (by omega)]
def zm (c:SC) (y:Int) (acc:List Int) (S:SS):(Int×Nat)×SS:=
 if y=16 then(if acc=[]then((0,0),yQ 700 S)else((acc.getD (acc.length-1) 0,3+(yP c 2 S).1),(yP c 2 S).2))
 else if y=17 then((0,3+(yP c 3 S).1),(yP c 3 S).2)
 else if y=18 then((0,11+(yP c 7 S).1),(yP c 7 S).2)
 else((y,1),S)
theorem BA (c:SC) (S:SS) (n:Nat) (hn:n≤16):(yP c n S).1<65536:=by
 unfold yP;split
 · have:=zg c.text S.at_ n
   have:=QO (show 0<2 by omega) hn
   simp at *;omega
 · simp
theorem BD {l:List Int} {i:Nat} (h:i<l.length):(ints l)[i]?=some (I (l.getD i 0)):=vP (by simp [List.getD,h])
theorem Jh {c : SC} {S : SS} {h : H} {ov : AV} (st : St c S h ov) (y : Int) {av : AV} {acc : List Int} (oa : pP h av (ints acc)) (ha : acc.length < 100000) (hne : ∀ i, av.id? = some i → i ≠ c.s ∧ i ≠ c.r ∧ ov.id? ≠ some i) :
 ∃h',aV AP.A 80 [.aH c.s 0,I y,av] h=some (.cf [I (zm c y acc S).1.1,I (zm c y acc S).1.2],h')∧St c (zm c y acc S).2 h' ov∧Fr c h ov h' ov:=by
 have ln:=oa.len
 rw[sD]at ln
 by_cases h16:y=16
 · have d16:=xc h16
   by_cases hnil:acc=[]
   · obtain⟨h',k1,k2,k3⟩:=zP st 700
     have e:zm c y acc S=((0,0),yQ 700 S):=by rw[zm,if_pos h16,if_pos hnil]
     rw[e]
     refine⟨h', ?_,k2,k3⟩
     have hz:((acc.length:Int)==0)=true:=by rw[hnil];rfl
     refine wF (fn:=AP.f80) (e:=[(6,I 0),(7,I 0)]) rfl rfl rfl ?_ rfl
     simp only[I]at *
     simp only[AP.f80,go_sem,d16,ln,hz,k1]
   · obtain⟨h',k1,k2,k3⟩:=AW st 2 2 rfl (by omega)
     have e:zm c y acc S=((acc.getD (acc.length-1) 0,3+(yP c 2 S).1),(yP c 2 S).2):=by rw[zm,if_pos h16,if_neg hnil]
     rw[e]
     have hpos:0<acc.length:=List.length_pos_iff.2 hnil
     have hz:((acc.length:Int)==0)=false:=xb (by omega)
     have hg:=BA c S 2 (by omega)
     have w1:IntKind.wrap .i64 (3+((yP c 2 S).1:Int))=((3+(yP c 2 S).1:Nat):Int):=by
      rw[show(3:Int)+((yP c 2 S).1:Int)=((3+(yP c 2 S).1:Nat):Int)by omega];exact yJ (by omega)
     have w2:IntKind.wrap .i64 ((acc.length:Int)-1)=((acc.length-1:Nat):Int):=by
      rw[show(acc.length:Int)-1=((acc.length-1:Nat):Int)by omega];exact yJ (by omega)
     have hel:=BD (l:=acc) (i:=acc.length-1) (by omega)
     obtain⟨id,i1,i2,i3⟩:=oa.elem hel
     have hid:=hne id (by rw[i1];rfl)
     have i4:h'.get id=some (ints acc):=by rw[k3.CR id (h.lt _ _ i3) hid.1 hid.2.1 hid.2.2];exact i3
     refine⟨h', ?_,k2,k3⟩
     refine wF (fn:=AP.f80) (e:=[(6,I (acc.getD (acc.length-1) 0)),(7,I (3+(yP c 2 S).1:Nat))]) rfl rfl rfl ?_ rfl
     generalize (yP c 2 S).1=G at *
     clear i1
     simp only[I]at *
     simp only[AP.f80,go_sem,d16,ln,hz]
     rw[EH (e':=[(7,.int .i64 ((3+G:Nat):Int)),(6,.int .i64 (acc.getD (acc.length-1) 0)),(24,.int .i64 ((3+G:Nat):Int)),(23,.int .i64 G),(22,.aH c.s 0),(21,.int .i64 (acc.getD (acc.length-1) 0)),(20,.aH id (acc.length-1)),(19,.int .i64 (acc.length-1:Nat)),(18,.int .i64 acc.length),(17,av),(16,av),(0,.aH c.s 0),(2,av)]) (h':=h') (gs:=[h,h'])]
     · simp only[go_sem]
     · simp only[AY,Cz,Cy,CE,CD,cy.aS,go_sem,ln,w2,i2,i3,hel,k1,w1]
     · refine A3 (fun k hk=> ?_) rfl
       obtain rfl:k=1:=by simpa using hk
       refine A1 (o:=⟨some 21,.load false 1 (.t 20),none⟩) (g:=h') (h':=h') (d:=21) (u:=.int .i64 (acc.getD (acc.length-1) 0)) rfl rfl rfl rfl ?_ ?_
       · simp only[aj,go_sem,i4,hel]
       · simp only[go_sem,CY]
 · have d16:=xb h16
   by_cases h17:y=17
   · have d17:=xc h17
     obtain⟨h',k1,k2,k3⟩:=AW st 3 3 rfl (by omega)
     have e:zm c y acc S=((0,3+(yP c 3 S).1),(yP c 3 S).2):=by rw[zm,if_neg h16,if_pos h17]
     rw[e]
     have hg:=BA c S 3 (by omega)
     have w1:IntKind.wrap .i64 (3+((yP c 3 S).1:Int))=((3+(yP c 3 S).1:Nat):Int):=by
      rw[show(3:Int)+((yP c 3 S).1:Int)=((3+(yP c 3 S).1:Nat):Int)by omega];exact yJ (by omega)
     refine⟨h', ?_,k2,k3⟩
     refine wF (fn:=AP.f80) (e:=[(6,I 0),(7,I (3+(yP c 3 S).1:Nat))]) rfl rfl rfl ?_ rfl
     simp only[I]at *
     simp only[AP.f80,go_sem,d16,d17,k1,w1]
   · have d17:=xb h17
     by_cases h18:y=18
     · have d18:=xc h18
       obtain⟨h',k1,k2,k3⟩:=AW st 7 7 rfl (by omega)
       have e:zm c y acc S=((0,11+(yP c 7 S).1),(yP c 7 S).2):=by rw[zm,if_neg h16,if_neg h17,if_pos h18]
       rw[e]
       have hg:=BA c S 7 (by omega)
       have w1:IntKind.wrap .i64 (11+((yP c 7 S).1:Int))=((11+(yP c 7 S).1:Nat):Int):=by
        rw[show(11:Int)+((yP c 7 S).1:Int)=((11+(yP c 7 S).1:Nat):Int)by omega];exact yJ (by omega)
       refine⟨h', ?_,k2,k3⟩
       refine wF (fn:=AP.f80) (e:=[(6,I 0),(7,I (11+(yP c 7 S).1:Nat))]) rfl rfl rfl ?_ rfl
       simp only[I]at *
       simp only[AP.f80,go_sem,d16,d17,d18,k1,w1]
     · have d18:=xb h18
       have e:zm c y acc S=((y,1),S):=by rw[zm,if_neg h16,if_neg h17,if_neg h18]
       rw[e]
       refine⟨h, ?_,st,Fr.refl _ _ _⟩
       refine wF (fn:=AP.f80) (e:=[(6,I y),(7,I 1)]) rfl rfl rfl ?_ rfl
       simp only[I]at *
       simp only[AP.f80,go_sem,d16,d17,d18]
def DV (t:ByteArray):List Int→Nat→List Int→List Int
 |[],_,o=>o
 |s::r,p,o=>DV t r (p+3) (o.set s.toNat (yN t p 3))
def zk (t:ByteArray) (y:Int) (acc:List Int) (p:Nat):Option (Int×Nat×Nat):=
 if y=16 then(if acc=[]then none else if p+2≤8* t.size then some (acc.getD (acc.length-1) 0,3+yN t p 2,p+2)else none)
 else if y=17 then(if p+3≤8* t.size then some (0,3+yN t p 3,p+3)else none)
 else if y=18 then(if p+7≤8* t.size then some (0,11+yN t p 7,p+7)else none)
 else some (y,1,p)
def zf (t : ByteArray) (cl : List Int) (many : Nat) : Nat → List Int → Nat → Option (List Int × Nat)
 |0,_,_=>none
 | f + 1, acc, p => if acc.length < many then
     match Ai t cl 15 1 0 p with
     |none=>none
     | some (y, p1) => match zk t y acc p1 with
       |none=>none
       |some (n,times,p2)=>zf t cl many f (acc++List.replicate times n) p2
   else if many<acc.length then none else some (acc,p)
def Ax (t : ByteArray) (many : Nat) (p : Nat) : Option (List Int × Nat) :=
 if p+4≤8* t.size then
  let k:=yN t p 4+4
  if p+4+3* k≤8* t.size then
   let cl:=DV t (y7.take k) (p+4) (List.replicate 19 0)
   if ze cl=0 then zf t cl many (8* t.size+1) [] (p+4+3* k)else none
  else none
 else none
theorem FZ {h:H} {t:Bool} {N k:Nat} {cs:List AV} (hN:cs.length=N) (hk:k≤N):vi h 1 (.aZ t cs 0 N 1) none (some (I k)) none=some (.aZ t cs 0 k 1):=by
 simp [vi,hN,aF,FO hk]
theorem Ey:∀s∈y7,0≤s∧s<19:=by decide
def Au (c:SC):List Int→List Int→SS→List Int×SS
 |[],o,S=>(o,S)
 |s::r,o,S=>Au c r (o.set s.toNat ((yP c 3 S).1:Nat)) (yP c 3 S).2
theorem DD (c:SC):∀(r o:List Int) (S:SS),(Au c r o S).1.length=o.length
 |[],o,S=>rfl
 |s::r,o,S=>by rw[Au,DD c r];simp
theorem GS (c : SC) : ∀ (r o : List Int) (S : SS), (∀ y ∈ o, 0 ≤ y ∧ y < 16) → ∀ y ∈ (Au c r o S).1, 0 ≤ y ∧ y < 16
 |[],o,S,h=>h
 | s :: r, o, S, h => by
   rw[Au]
   refine GS c r _ _ fun y hy=> ?_
   rcases List.mem_or_eq_of_mem_set hy with q|q
   · exact h y q
   · subst q
     have:(yP c 3 S).1<8:=by
      unfold yP;split
      · simpa using zg c.text S.at_ 3
      · simp
     omega
theorem EW (c:SC):∀(r o:List Int) (S:SS),S.e=0→S.at_+3* r.length≤8* c.text.size→Au c r o S=(DV c.text r S.at_ o,{S with at_:=S.at_+3* r.length})
 |[],o,S,he,h=>rfl
 | s :: r, o, S, he, h => by
   rw[QR]at h
   have eg:yP c 3 S=(yN c.text S.at_ 3,{S with at_:=S.at_+3}):=by rw[yP,if_pos (by omega)]
   rw[Au,eg]
   dsimp only
   rw[EW c r _ {S with at_:=S.at_+3} he (by dsimp only;omega)]
   simp only[DV,QR]
   rw[show S.at_+3+3* r.length=S.at_+3* (r.length+1)by omega]
theorem Gm (c:SC) (n:Nat) (S:SS) (h:S.e=0∨S.e=700):(yP c n S).2.e=0∨(yP c n S).2.e=700:=by
 unfold yP;split
 · exact h
 · rcases h with h|h<;>simp [yQ,h]
theorem Jy (c:SC) (n:Nat) (S:SS) (h:S.e=700):(yP c n S).2.e=700:=by
 unfold yP;split
 · exact h
 · simp [yQ,h]
theorem Iv (c:SC):∀(r o:List Int) (S:SS),(S.e=0∨S.e=700)→((Au c r o S).2.e=0∨(Au c r o S).2.e=700)
 |[],o,S,h=>h
 |s::r,o,S,h=>by rw[Au];exact Iv c r _ _ (Gm c 3 S h)
theorem EV (c:SC):∀(r o:List Int) (S:SS),S.e=700→(Au c r o S).2.e=700
 |[],o,S,h=>h
 |s::r,o,S,h=>by rw[Au];exact EV c r _ _ (Jy c 3 S h)
theorem DC (c:SC):∀(r o:List Int) (S:SS),S.e=0→S.at_≤8* c.text.size→8* c.text.size<S.at_+3* r.length→(Au c r o S).2.e=700
 |[],o,S,he,hle,h=>by simp at h;omega
 | s :: r, o, S, he, hle, h => by
   rw[Au]
   rw[QR]at h
   by_cases hp:S.at_+3≤8* c.text.size
   · have eg:yP c 3 S=(yN c.text S.at_ 3,{S with at_:=S.at_+3}):=by rw[yP,if_pos hp]
     rw[eg]
     exact DC c r _ _ he hp (by dsimp only;omega)
   · have eg:yP c 3 S=(0,{S with e:=700}):=by rw[yP,if_neg hp,yQ,if_pos he]
     rw[eg]
     exact EV c r _ _ rfl
theorem FK {c:SC} (a:Nat) (x:AV) (xs:List Int) (hxs:∀s∈xs,0≤s∧s<19) (hxl:xs.length≤19) (hac:a≠c.s∧a≠c.r) (m:AV):∀(q p o:List Int) (S:SS) (h:H) (ov:AV),xs=p++q→Rd h x (ints xs)→(∀i,x.id?≠some i)→St c S h ov→ov.id?≠some a→h.get a=some (ints o)→o.length=19→h.floor≤a→
 ∃ e' h', Lp AP.A [0, 1, 5, 18, 19, 20] AP.f64L1 [(0, .aH c.s 0), (1, m), (5, .aH a 0), (18, x), (19, I xs.length), (20, I p.length)] h = some (.exit 0, e', h') ∧ look e' 0 = .aH c.s 0 ∧ look e' 1 = m ∧ look e' 5 = .aH a 0 ∧
   St c (Au c q o S).2 h' ov∧h'.get a=some (ints (Au c q o S).1)∧h'.floor=h.floor∧h.next≤h'.next∧∀i,i<h.next→i≠c.s→i≠c.r→ov.id?≠some i→i≠a→h'.get i=h.get i
 | [], p, o, S, h, ov, hp, rd, hx, st, hoa, hg, ho, hf => by
   rw[QT]at hp;subst hp
   refine⟨[(0,.aH c.s 0),(1,m),(5,.aH a 0),(18,x),(19,I xs.length),(20,I xs.length),(21,.bool false)],h,wh ?_,rfl,rfl,rfl,st,hg,rfl,ya _,fun _ _ _ _ _ _=>rfl⟩
   have c1:¬(xs.length:Int)<(xs.length:Int):=by omega
   simp only[I]at *
   simp only[AP.f64L1,go_sem,QL c1]
 | s :: q, p, o, S, h, ov, hp, rd, hx, st, hoa, hg, ho, hf => by
   have hlen:xs.length=p.length+(q.length+1):=by rw[hp];simp
   have c1:(p.length:Int)<(xs.length:Int):=by omega
   have hs:=hxs s (by rw[hp];simp)
   obtain⟨sn,hsn⟩:∃n:Nat,s=n:=QQ hs.1
   subst hsn
   have hv:(ints xs)[p.length]?=some (I sn):=vP (by rw[hp];simp)
   obtain⟨ad,p1,p2⟩:=rd.elem hv
   have p3:=p2 h (fun _ _ q=>q)
   obtain⟨h1,k1,k2,k3⟩:=AW st 3 3 rfl (by omega)
   have hal:a<h.next:=h.lt _ _ hg
   have hg1:h1.get a=some (ints o):=by rw[k3.CR a hal hac.1 hac.2 hoa];exact hg
   have a1:dH (I sn) 19=some sn:=mI (by omega)
   have hset:(ints o).set sn (I ((yP c 3 S).1:Nat))=ints (o.set sn ((yP c 3 S).1:Nat)):=by simp [ints,List.map_set]
   have hst:wZ h1 a sn 1 [I ((yP c 3 S).1:Nat)] (some (ints o))=some (h1.set a (ints (o.set sn ((yP c 3 S).1:Nat)))):=by
    rw[xG (by rw[k3.fl];exact hf) (by rw[sD];omega) rfl,hset]
   have w2:IntKind.wrap .i64 ((p.length:Int)+1)=(((p++[(sn:Int)]).length:Nat):Int):=by
    rw[yH];exact yJ (n:=p.length+1) (by omega)
   have step:aP (aV AP.A) bL AP.f64L1 (aC [(0,.aH c.s 0),(1,m),(5,.aH a 0),(18,x),(19,I xs.length),(20,I p.length)] [0,1,5,18,19,20]) h=some (.normal,[(0,.aH c.s 0),(1,m),(5,.aH a 0),(18,x),(19,I xs.length),(20,I (p++[(sn:Int)]).length)],h1.set a (ints (o.set sn ((yP c 3 S).1:Nat)))):=by
    generalize ints (o.set sn ((yP c 3 S).1:Nat))=W at *
    generalize (p++[(sn:Int)]).length=B at *
    generalize (yP c 3 S).1=G at *
    generalize ints o=OO at *
    simp only[I]at *
    simp only[AP.f64L1,go_sem,QM c1,p1,p3,k1,a1,hg1,hst,w2]
   have st2:St c (yP c 3 S).2 (h1.set a (ints (o.set sn ((yP c 3 S).1:Nat)))) ov:=k2.AH (by simp) (by simp) fun i hi=>by
    rw[H.eh,if_neg]
    rintro rfl
    rcases hi with hi|hi|hi
    · exact hac.1 hi
    · exact hac.2 hi
    · exact hoa hi
   have rd2:Rd (h1.set a (ints (o.set sn ((yP c 3 S).1:Nat)))) x (ints xs):=by
    refine⟨?_,rd.2⟩
    have:=rd.1
    unfold aW at this ⊢
    split at this
    · exact this
    · exact this
    · exact absurd rfl (hx _)
    · exact this
    · cases this
   obtain⟨e',h',q1,q2,q3,q4,q5,q6,q7,q8,q9⟩:=FK a x xs hxs hxl hac m q (p++[(sn:Int)]) (o.set sn ((yP c 3 S).1:Nat)) _ _ ov (by rw[hp];simp) rd2 hx st2 hoa (by rw[H.eh,if_pos rfl,hg1];rfl) (by simpa using ho) (by simp [k3.fl];exact hf)
   refine⟨e',h',wj step q1,q2,q3,q4, ?_, ?_,by rw[q7];simp [k3.fl],by have:=k3.nx;simp at q8;omega,fun i i1 i2 i3 i4 i5=> ?_⟩
   · rw[Au];exact q5
   · rw[Au];exact q6
   · rw[q9 i (by have:=k3.nx;simp;omega) i2 i3 i4 i5,H.eh,if_neg i5,k3.CR i i1 i2 i3 i4]
theorem AA {c:SC} {S:SS} {h:H} {ov:AV} (st:St c S h ov) (b:AV) (many:Nat) {av:AV} {acc:List Int} (oa:pP h av (ints acc)) (hs:many≤acc.length∨(acc.length<many∧S.e≠0)):
 ∃e',Lp AP.A [0,1,9,10] AP.f64L0 [(0,.aH c.s 0),(1,I many),(9,b),(10,av)] h=some (.exit 2,e',h)∧look e' 0=.aH c.s 0∧look e' 1=I many∧look e' 10=av:=by
 have gs:=st.gs
 have ln:=oa.len
 rw[sD]at ln
 refine⟨[(0,.aH c.s 0),(1,I many),(9,b),(10,av),(46,.bool false)],wh ?_,rfl,rfl,rfl⟩
 rcases hs with hs|⟨hs,he⟩
 · have c1:¬(acc.length:Int)<many:=by omega
   simp only[I]at *
   simp only[AP.f64L0,go_sem,ln,QL c1]
 · have c1:(acc.length:Int)<many:=by omega
   have c2:=xb he
   simp only[I]at *
   simp only[AP.f64L0,go_sem,ln,QM c1,gs,c2]
theorem G8 {c : SC} {S : SS} {y : Int} {acc : List Int} (he : S.e = 0) :
 match zk c.text y acc S.at_ with
 |some (n,times,p)=>zm c y acc S=((n,times),{S with at_:=p})∧S.at_≤p
 |none=>(zm c y acc S).2.e=700:=by
 unfold zk zm
 by_cases h16:y=16
 · rw[if_pos h16,if_pos h16]
   by_cases hn:acc=[]
   · rw[if_pos hn,if_pos hn];simp [yQ,he]
   · rw[if_neg hn,if_neg hn]
     by_cases hp:S.at_+2≤8* c.text.size
     · simp [yP,hp]
     · simp [yP,hp,yQ,he]
 · rw [if_neg h16, if_neg h16]
   by_cases h17:y=17
   · rw[if_pos h17,if_pos h17]
     by_cases hp:S.at_+3≤8* c.text.size
     · simp [yP,hp]
     · simp [yP,hp,yQ,he]
   · rw[if_neg h17,if_neg h17]
     by_cases h18:y=18
     · rw[if_pos h18,if_pos h18]
       by_cases hp:S.at_+7≤8* c.text.size
       · simp [yP,hp]
       · simp [yP,hp,yQ,he]
     · rw[if_neg h18,if_neg h18]
       exact⟨rfl,ya _⟩
theorem EI (c:SC) (y:Int) (acc:List Int) (S:SS):(zm c y acc S).1.2<70000:=by
 unfold zm
 have h2:=BA c S 2 (by omega)
 have h3:=BA c S 3 (by omega)
 have h7:=BA c S 7 (by omega)
 repeat' split
 all_goals (dsimp only;omega)
theorem Ek {c : SC} (h0 : H) (cl : List Int) (hcl : cl.length < 100000) (many : Nat) (hm : many ≤ 400) : ∀ (f : Nat) (acc : List Int) (S : SS) (h : H) (ov av : AV), St c S h ov → S.e = 0 → 8 * c.text.size < S.at_ + f → Fr c h0 ov h ov → pP h av (ints acc) → acc.length < 80000 → (∀ i, av.id? = some i → h0.next ≤ i) → (∀ i, (i = c.s ∨ i = c.r ∨ ov.id? = some i) → i < h0.next) →
 ∃ e' h' S' av' acc', Lp AP.A [0, 1, 9, 10] AP.f64L0 [(0, .aH c.s 0), (1, I many), (9, y8 cl), (10, av)] h = some (.exit 2, e', h') ∧ look e' 0 = .aH c.s 0 ∧ look e' 1 = I many ∧ look e' 10 = av' ∧ St c S' h' ov ∧ Fr c h0 ov h' ov ∧ pP h' av' (ints acc') ∧ acc'.length < 200000 ∧ (∀ i, av'.id? = some i → h0.next ≤ i) ∧
   match zf c.text cl many f acc S.at_ with
   |some (L,p)=>S'={S with at_:=p}∧acc'=L∧L.length=many
   |none=>S'.e=700∨(S'.e=0∧many<acc'.length)
 |0,acc,S,h,ov,av,st,he,hk,fr,oa,hal,hid,hlo=>by have:=st.zC;omega
 | f + 1, acc, S, h, ov, av, st, he, hk, fr, oa, hal, hid, hlo => by
   by_cases hlt:acc.length<many
   · rw [zf, if_pos hlt]
     have gs:=st.gs
     have ln:=oa.len
     rw[sD]at ln
     have c1:(acc.length:Int)<many:=by omega
     obtain⟨h1,S1,y,s1,s2,s3,s4⟩:=DO cl hcl st he
     have hneq:∀i,av.id?=some i→i≠c.s∧i≠c.r∧ov.id?≠some i:=fun i hi=>by
      have:=hid i hi
      refine⟨fun e=> ?_,fun e=> ?_,fun e=> ?_⟩
      · have:=hlo i (.inl e);omega
      · have:=hlo i (.inr (.inl e));omega
      · have:=hlo i (.inr (.inr e));omega
     have oa1:pP h1 av (ints acc):=oa.mono s3.fl fun i hi=>s3.CR i (oa.lt hi) (hneq i hi).1 (hneq i hi).2.1 (hneq i hi).2.2
     obtain⟨h2,r1,r2,r3⟩:=Jh s2 y oa1 (by omega) hneq
     have oa2:pP h2 av (ints acc):=oa1.mono r3.fl fun i hi=>r3.CR i (oa1.lt hi) (hneq i hi).1 (hneq i hi).2.1 (hneq i hi).2.2
     obtain⟨n,hn⟩:∃n,n=(zm c y acc S1).1.1:=⟨_,rfl⟩
     obtain⟨times,htm⟩:∃n,n=(zm c y acc S1).1.2:=⟨_,rfl⟩
     obtain⟨S2,hS2⟩:∃n,n=(zm c y acc S1).2:=⟨_,rfl⟩
     have htb:=EI c y acc S1
     rw[←hn,←htm]at r1;rw[←hS2]at r2;rw[←htm]at htb
     have al:=r2.alloc [I n]
     have rp:=AZ (h2.alloc [I n]) (.aI h2.next 0 1 1) n times (by omega) (BG _ _)
     have oa3:pP (h2.alloc [I n]) av (ints acc):=oa2.mono (by simp) fun i hi=>by
      have:=oa2.lt hi;rw[H.bc,if_neg (by omega)]
     have hfr3:=((fr.trans s3).trans r3).trans al.2
     have hap:∃v' h3,mV (h2.alloc [I n]) 1 8 av (.aZ false (ints (List.replicate times n)) 0 times 1)=some (v',h3)∧pP h3 v' (ints (acc++List.replicate times n))∧St c S2 h3 ov∧Fr c h0 ov h3 ov∧∀i,v'.id?=some i→h0.next≤i:=by
      have src:aW (h2.alloc [I n]) 1 (.aZ false (ints (List.replicate times n)) 0 times 1)=some (times,ints (List.replicate times n)):=by
       simp [aW,yC]
      by_cases ht0:times=0
      · subst ht0
        refine⟨av,h2.alloc [I n], ?_,by simpa using oa3,al.1,hfr3,hid⟩
        unfold mV
        rw[src,xX]
        unfold eT
        rw[if_pos rfl]
        rcases oa3 with ⟨rfl,_⟩|⟨id,rfl,_⟩<;>rfl
      · have hnx:=al.1.nx
        obtain⟨v',h3,q1,q2,q3,q4,q5,q6⟩:=oa3.apps hnx (z:=8) (ints (List.replicate times n)) (lq _) (by simp;omega) (by simp [roomy];omega)
        refine⟨v',h3, ?_,by rw[su];exact q2,al.1.AH q3 q4 fun i hi=> ?_,⟨q3.trans hfr3.fl,yF hfr3.nx q4,fun id i1 i2 i3 i4=> ?_,fun i hi=>.inl hi⟩,fun i hi=> ?_⟩
        · unfold mV
          rw[src,xX]
          have hl:(ints (List.replicate times n)).length=times:=by simp
          rw[hl]at q1;exact q1
        · have hlt0:=hlo i hi
          have hle:h0.next≤(h2.alloc [I n]).next:=hfr3.nx
          exact q5 i (fun e=>by have:=hid i e;omega) (by omega)
        · have hle:h0.next≤(h2.alloc [I n]).next:=hfr3.nx
          rw[q5 id (fun e=>by have:=hid id e;omega) (by omega)]
          exact hfr3.CR id i1 i2 i3 i4
        · rw[q6]at hi;cases hi;exact hfr3.nx
     obtain⟨v',h3,ap1,ap2,ap3,ap4,ap5⟩:=hap
     have step:aP (aV AP.A) bL AP.f64L0 (aC [(0,.aH c.s 0),(1,I many),(9,y8 cl),(10,av)] [0,1,9,10]) h=some (.normal,[(0,.aH c.s 0),(1,I many),(9,y8 cl),(10,v')],h3):=by
      have bs:∀(e:Env),look e 57=.int .i64 n→bh e (.dw 1 1 [.int .i64 0] [(0,.t 57)])=some ([.int .i64 n],fun i=>.aI i 0 1 1):=by
       intro e q
       simp only[bh,QY,Q2,vt,q];rfl
      simp only[I]at *
      simp only[AP.f64L0,go_sem,ln,QM c1,gs,he,s1,r1]
      rw[bs _ rfl]
      simp only[go_sem,rp,ap1]
     have hacc':(acc++List.replicate times n).length<80000:=by simp;omega
     cases hz:Ai c.text cl 15 1 0 S.at_ with
     | none =>
       rw[hz]at s4
       obtain⟨s4,s5⟩:=s4
       have hy:y=256:=s5
       have hag:zm c y acc S1=((y,1),S1):=by rw[zm,if_neg (by omega),if_neg (by omega),if_neg (by omega)]
       have hS2e:S2.e=700:=by rw[hS2,hag];exact s4
       dsimp only
       by_cases hlt2:(acc++List.replicate times n).length<many
       · obtain⟨e',q1,q2,q3,q4⟩:=AA ap3 (y8 cl) many ap2 (.inr ⟨hlt2,by rw[hS2e];decide⟩)
         exact⟨e',h3,S2,v',_,wj step q1,q2,q3,q4,ap3,ap4,ap2,by omega,ap5,.inl hS2e⟩
       · obtain⟨e',q1,q2,q3,q4⟩:=AA ap3 (y8 cl) many ap2 (.inl (by omega))
         exact⟨e',h3,S2,v',_,wj step q1,q2,q3,q4,ap3,ap4,ap2,by omega,ap5,.inl hS2e⟩
     | some yp =>
       obtain⟨z,p1⟩:=yp
       rw[hz]at s4
       obtain⟨s4,s5⟩:=s4
       subst s5 s4
       have zb:=Ad hz
       have hok:=G8 (c:=c) (S:={S with at_:=p1}) (y:=y) (acc:=acc) he
       dsimp only at hok ⊢
       cases ha:zk c.text y acc p1 with
       | none =>
         rw[ha]at hok
         have hS2e:S2.e=700:=by rw[hS2];exact hok
         dsimp only
         by_cases hlt2:(acc++List.replicate times n).length<many
         · obtain⟨e',q1,q2,q3,q4⟩:=AA ap3 (y8 cl) many ap2 (.inr ⟨hlt2,by rw[hS2e];decide⟩)
           exact⟨e',h3,S2,v',_,wj step q1,q2,q3,q4,ap3,ap4,ap2,by omega,ap5,.inl hS2e⟩
         · obtain⟨e',q1,q2,q3,q4⟩:=AA ap3 (y8 cl) many ap2 (.inl (by omega))
           exact⟨e',h3,S2,v',_,wj step q1,q2,q3,q4,ap3,ap4,ap2,by omega,ap5,.inl hS2e⟩
       | some q =>
         obtain⟨n2,t2,p2⟩:=q
         rw[ha]at hok
         obtain⟨hok,hp12⟩:=hok
         rw[hok]at hn htm hS2
         dsimp only at hn htm hS2
         subst hn htm hS2
         obtain⟨e',h',S',av',acc',q1,q2,q3,q4,q5,q6,q7,q8,q9,q10⟩:=Ek h0 cl hcl many hm f (acc++List.replicate times n) _ h3 ov v' ap3 he (by dsimp only;omega) ap4 ap2 hacc' ap5 hlo
         exact⟨e',h',S',av',acc',wj step q1,q2,q3,q4,q5,q6,q7,q8,q9,q10⟩
   · obtain⟨e',q1,q2,q3,q4⟩:=AA st (y8 cl) many oa (.inl (by omega))
     refine⟨e',h,S,av,acc,q1,q2,q3,q4,st,fr,oa,by omega,hid, ?_⟩
     rw[zf,if_neg hlt]
     by_cases hgt:many<acc.length
     · rw[if_pos hgt];exact .inr ⟨he,hgt⟩
     · rw[if_neg hgt];exact⟨rfl,rfl,by omega⟩
theorem Hs {c : SC} {S : SS} {h : H} {ov : AV} (st : St c S h ov) (he : S.e = 0) (many : Nat) (hm0 : 0 < many) (hm : many ≤ 400) :
 ∃ h' S' av acc, aV AP.A 64 [.aH c.s 0, I many] h = some (av, h') ∧ St c S' h' ov ∧ Fr c h ov h' ov ∧ pP h' av (ints acc) ∧ (∀ i, av.id? = some i → h.next ≤ i) ∧ match Ax c.text many S.at_ with
   |some (L,p)=>S'={S with at_:=p}∧acc=L∧L.length=many
   |none=>S'.e=700:=by
 have gs:=st.gs
 obtain⟨a,ha⟩:∃a,a=h.next:=⟨_,rfl⟩
 obtain⟨g0,hg0⟩:∃g,g=h.alloc (ints (List.replicate 19 0)):=⟨_,rfl⟩
 have al:=st.alloc (ints (List.replicate 19 0))
 rw[←hg0]at al
 have hga:g0.get a=some (ints (List.replicate 19 0)):=by rw[hg0,H.bc,if_pos ha]
 have oc:=JL g0
 obtain⟨h1,k1,k2,k3⟩:=AW al.1 4 4 rfl (by omega)
 obtain⟨G,hG⟩:∃G,G=(yP c 4 S).1:=⟨_,rfl⟩
 obtain⟨S1,hS1⟩:∃G,G=(yP c 4 S).2:=⟨_,rfl⟩
 rw[←hG]at k1;rw[←hS1]at k2
 have hG16:G<16:=by
  rw[hG];unfold yP;split
  · simpa using zg c.text S.at_ 4
  · simp
 have w1:IntKind.wrap .i64 ((G:Int)+4)=((G+4:Nat):Int):=yJ (n:=G+4) (by omega)
 obtain⟨x,hx⟩:∃x,x=AV.aZ false (ints y7) 0 (G+4) 1:=⟨_,rfl⟩
 have sl:vi h1 1 (zj y7) none (some (I (G+4:Nat))) none=some x:=by
  rw[hx];exact FZ (by rw[sD]) (by show G+4≤19;omega)
 have xl:j6 false x=some (I (G+4:Nat)):=by rw[hx];rfl
 obtain⟨xs,hxs⟩:∃xs,xs=y7.take (G+4):=⟨_,rfl⟩
 have hol:y7.length=19:=rfl
 have hxsl:xs.length=G+4:=by rw[hxs,List.length_take,hol];omega
 have rdx:Rd h1 x (ints xs):=by
  refine⟨?_,by rw[hx];intro s e;cases e⟩
  have ht:(ints y7).take (G+4)=ints xs:=by rw[hxs];simp [ints,List.map_take]
  simp only[aW,hx,if_true]
  rw[if_pos (by rw[sD,hol];omega),QX,Q3,ht];simp [hxsl]
 have hac:a≠c.s∧a≠c.r:=⟨fun e=>by have:=st.lt (.inl e);omega,fun e=>by have:=st.lt (.inr (.inl e));omega⟩
 have hoa:ov.id?≠some a:=fun e=>by have:=st.lt (.inr (.inr e));omega
 have hga1:h1.get a=some (ints (List.replicate 19 0)):=by rw[k3.CR a (g0.lt _ _ hga) hac.1 hac.2 hoa];exact hga
 have hfa:h1.floor≤a:=by rw[k3.fl,hg0,ha];simp;exact st.nx
 obtain⟨e2,h2,l1,l2,l3,l4,l5,l6,l7,l8,l9⟩:=FK (c:=c) a x xs (fun s hs=>Ey s (List.mem_of_mem_take (hxs ▸ hs))) (by omega) hac (I many) xs [] (List.replicate 19 0) S1 h1 ov rfl rdx (by rw[hx];intro i e;cases e) k2 hoa hga1 (by simp) hfa
 obtain⟨cl,hcl⟩:∃cl,cl=(Au c xs (List.replicate 19 0) S1).1:=⟨_,rfl⟩
 obtain⟨S2,hS2⟩:∃cl,cl=(Au c xs (List.replicate 19 0) S1).2:=⟨_,rfl⟩
 rw[←hS2]at l5;rw[←hcl]at l6
 have hcll:cl.length=19:=by rw[hcl,DD];simp
 have hclb:∀y∈cl,0≤y∧y<16:=by
  rw[hcl];refine GS c _ _ _ fun y hy=> ?_
  obtain⟨_,rfl⟩:=List.mem_replicate.1 hy;omega
 rw[hxsl]at l1
 have l1':Lp AP.A [0,1,5,18,19,20] AP.f64L1 [(0,.aH c.s 0),(1,I many),(5,.aH a 0),(18,x),(19,I (G+4:Nat)),(20,I 0)] h1=some (.exit 0,e2,h2):=l1
 clear l1
 have fr2:Fr c h ov h2 ov:=by
  refine⟨by rw[l7,k3.fl,al.2.fl], ?_,fun id i1 i2 i3 i4=> ?_,fun i hi=>.inl hi⟩
  · have:=al.2.nx;have:=k3.nx;omega
  · have hn0:g0.next=h.next+1:=by rw[hg0];simp
    have:=k3.nx
    rw[l9 id (by omega) i2 i3 i4 (by omega),k3.CR id (by omega) i2 i3 i4,al.2.CR id i1 i2 i3 i4]
 have uZ:oJ h2 19 1 (.aH a 0) none none=some (.aI a 0 19 1):=by
  simp [oJ,l6,aF,hcll]
 have jj:Rd h2 (.aI a 0 19 1) (ints cl):=by
  refine⟨?_,by intro s e;cases e⟩
  simp [aW,l6,hcll,yC]
 have ck:=EL h2 (.aI a 0 19 1) cl (by omega) jj
 have mk:=BR h2 (.aI a 0 19 1) cl (by omega) hclb jj
 have hhead:(ze cl=0∧S2.e=0∧S.at_+4≤8* c.text.size∧S.at_+4+3* (yN c.text S.at_ 4+4)≤8* c.text.size∧cl=DV c.text (y7.take (yN c.text S.at_ 4+4)) (S.at_+4) (List.replicate 19 0)∧S2={S with at_:=S.at_+4+3* (yN c.text S.at_ 4+4)})∨((ze cl≠0∨S2.e≠0)∧(S2.e=0∨S2.e=700)∧Ax c.text many S.at_=none):=by
  by_cases hp:S.at_+4≤8* c.text.size
  · have eg:yP c 4 S=(yN c.text S.at_ 4,{S with at_:=S.at_+4}):=by rw[yP,if_pos hp]
    rw[eg]at hG hS1;dsimp only at hG hS1
    subst hS1
    by_cases hp2:S.at_+4+3* (yN c.text S.at_ 4+4)≤8* c.text.size
    · have ok:=EW c xs (List.replicate 19 0) {S with at_:=S.at_+4} he (by dsimp only;omega)
      rw[ok]at hcl hS2
      dsimp only at hcl hS2
      rw[hxsl,hG]at hS2
      rw[hxs,hG]at hcl
      by_cases hck:ze cl=0
      · exact .inl ⟨hck,by rw[hS2];exact he,hp,hp2,hcl,hS2⟩
      · refine .inr ⟨.inl hck,.inl (by rw[hS2];exact he), ?_⟩
        rw[Ax,if_pos hp];dsimp only;rw[if_pos hp2,←hcl,if_neg hck]
    · have hb:=DC c xs (List.replicate 19 0) {S with at_:=S.at_+4} he (by dsimp only;omega) (by dsimp only;omega)
      rw[←hS2]at hb
      refine .inr ⟨.inr (by rw[hb];decide),.inr hb, ?_⟩
      rw[Ax,if_pos hp];dsimp only;rw[if_neg hp2]
  · have eg:yP c 4 S=(0,{S with e:=700}):=by rw[yP,if_neg hp,yQ,if_pos he]
    rw[eg]at hS1;dsimp only at hS1
    have hb:=EV c xs (List.replicate 19 0) S1 (by rw[hS1])
    rw[←hS2]at hb
    exact .inr ⟨.inr (by rw[hb];decide),.inr hb,by rw[Ax,if_neg hp]⟩
 have hbk:∀(h3:H) (S3:SS),St c S3 h3 ov→Fr c h ov h3 ov→aV AP.A 41 [.aI a 0 19 1] h3=some (y8 cl,h3)→oJ h3 19 1 (.aH a 0) none none=some (.aI a 0 19 1)→
  (aP (aV AP.A) bL (.cond (.t 31) (.qZ [⟨some 32,.mv (.t 0),none⟩,⟨some 33,.call (.c (.fn 45 [] [])) [(.t 32),(.c (.int .i64 700))],none⟩] [0,1,5]) .skip [0,1,5]) [(0,.aH c.s 0),(1,I many),(5,.aH a 0),(31,.bool (ze cl !=0))] h2=some (.normal,[(0,.aH c.s 0),(1,I many),(5,.aH a 0)],h3))→
  ∀(e4:Env) (h4:H) (av:AV) (acc:List Int) (h5:H),Lp AP.A [0,1,9,10] AP.f64L0 [(0,.aH c.s 0),(1,I many),(9,y8 cl),(10,.aT)] h3=some (.exit 2,e4,h4)→look e4 0=.aH c.s 0→look e4 1=I many→look e4 10=av→j6 false av=some (I acc.length)→
  (many<acc.length→aV AP.A 45 [.aH c.s 0,I 700] h4=some (.cf [],h5))→(¬many<acc.length→h5=h4)→aV AP.A 64 [.aH c.s 0,I many] h=some (av,h5):=by
  intro h3 S3 st3 fr3 mk3 sla3 cnd e4 h4 av acc h5 m1 m2 m3 m4 m5 m6 m7
  refine wF (fn:=AP.f64) (e:=[(4,av)]) (vs:=[av]) rfl rfl rfl ?_ rfl
  have bt:∀e:Env,bh e (.alloc [.int .i64 0,.int .i64 0,.int .i64 0,.int .i64 0,.int .i64 0,.int .i64 0,.int .i64 0,.int .i64 0,.int .i64 0,.int .i64 0,.int .i64 0,.int .i64 0,.int .i64 0,.int .i64 0,.int .i64 0,.int .i64 0,.int .i64 0,.int .i64 0,.int .i64 0])=some (ints (List.replicate 19 0),fun i=>.aH i 0):=fun _=>rfl
  unfold AP.f64
  refine xD (e1:=[(0,.aH c.s 0),(1,I many)]) (h1:=h) rfl ?_
  refine xD (e1:=[(0,.aH c.s 0),(1,I many),(5,.aH a 0)]) (h1:=g0) ?_ ?_
  · simp only[go_sem,bt,←hg0,←ha]
  refine xD (e1:=[(0,.aH c.s 0),(1,I many),(5,.aH a 0),(6,zj y7)]) (h1:=g0) ?_ ?_
  · simp only[go_sem,oc]
  refine xD (e1:=[(0,.aH c.s 0),(1,I many),(5,.aH a 0)]) (h1:=h2) ?_ ?_
  · clear bt
    simp only[I]at *
    simp only[go_sem,k1,w1,QN,QP,sl,xl,vp,l1',l2,l3,l4]
  refine xD (e1:=[(0,.aH c.s 0),(1,I many),(5,.aH a 0)]) (h1:=h3) ?_ ?_
  · refine xD (e1:=[(0,.aH c.s 0),(1,I many),(5,.aH a 0),(31,.bool (ze cl !=0))]) (h1:=h2) ?_ cnd
    simp only[I]at *
    simp only[go_sem,QP,uZ,ck]
  refine xD (e1:=[(0,.aH c.s 0),(1,I many),(9,y8 cl)]) (h1:=h3) ?_ ?_
  · simp only[go_sem,QP,sla3,mk3]
  refine xD (e1:=[(0,.aH c.s 0),(1,I many),(9,y8 cl),(10,.aT)]) (h1:=h3) rfl ?_
  refine xD (e1:=[(0,.aH c.s 0),(1,I many),(10,av)]) (h1:=h4) ?_ ?_
  · simp only[go_sem,vp,m1,m2,m3,m4]
  refine xD (e1:=[(10,av)]) (h1:=h5) ?_ ?_
  · by_cases hgt:many<acc.length
    · have c1:(many:Int)<(acc.length:Int):=by omega
      have m6':=m6 hgt
      clear m6 m7
      simp only[I]at *
      simp only[go_sem,m5,QM c1,m6']
    · have c1:¬(many:Int)<(acc.length:Int):=by omega
      have m7':=m7 hgt
      subst m7'
      clear m6 m7
      simp only[I]at *
      simp only[go_sem,m5,QL c1]
  simp only[go_sem]
 rcases hhead with ⟨hck,he2,hp,hp2,hcl2,hS22⟩|⟨hbad,he2,hnone⟩
 · have hlen0:Ax c.text many S.at_=zf c.text cl many (8* c.text.size+1) [] S2.at_:=by
    rw[Ax,if_pos hp];dsimp only;rw[if_pos hp2,←hcl2,if_pos hck,hS22]
   have cnd:aP (aV AP.A) bL (.cond (.t 31) (.qZ [⟨some 32,.mv (.t 0),none⟩,⟨some 33,.call (.c (.fn 45 [] [])) [(.t 32),(.c (.int .i64 700))],none⟩] [0,1,5]) .skip [0,1,5]) [(0,.aH c.s 0),(1,I many),(5,.aH a 0),(31,.bool (ze cl !=0))] h2=some (.normal,[(0,.aH c.s 0),(1,I many),(5,.aH a 0)],h2):=by
    have cb:(ze cl !=0)=false:=xe hck
    simp only[go_sem,cb]
   obtain⟨e4,h4,S4,av,acc,m1,m2,m3,m4,m5,m6,m7,m8,m9,m10⟩:=Ek h cl (by omega) many hm (8* c.text.size+1) [] S2 h2 ov .aT l5 he2 (by omega) fr2 (.inl ⟨rfl,rfl⟩) (by simp) (fun i q=>by cases q) (fun i hi=>st.lt hi)
   have ln:=m7.len
   rw[sD]at ln
   rw[hlen0]
   cases hL:zf c.text cl many (8* c.text.size+1) [] S2.at_ with
   | some q =>
     obtain⟨L,p⟩:=q
     rw[hL]at m10
     obtain⟨n1,n2,n3⟩:=m10
     have hng:¬many<acc.length:=by rw[n2];omega
     refine⟨h4,S4,av,acc,hbk h2 S2 l5 fr2 mk uZ cnd e4 h4 av acc h4 m1 m2 m3 m4 ln (fun q=>absurd q hng) (fun _=>rfl),m5,m6,m7,m9, ?_,n2,n3⟩
     rw[n1,hS22]
   | none =>
     rw[hL]at m10
     dsimp only at m10 ⊢
     by_cases hgt:many<acc.length
     · obtain⟨h5,f1,f2,f3⟩:=zP m5 700
       refine⟨h5,yQ 700 S4,av,acc,hbk h2 S2 l5 fr2 mk uZ cnd e4 h4 av acc h5 m1 m2 m3 m4 ln (fun _=>f1) (fun q=>absurd hgt q),f2,m6.trans f3, ?_,m9, ?_⟩
       · refine m7.mono f3.fl fun i hi=>f3.CR i (m7.lt hi) (fun e=> ?_) (fun e=> ?_) (fun e=> ?_)
         · have:=m9 i hi;have:=st.lt (.inl e);omega
         · have:=m9 i hi;have:=st.lt (.inr (.inl e));omega
         · have:=m9 i hi;have:=st.lt (.inr (.inr e));omega
       · rcases m10 with q|⟨q,_⟩<;>simp [yQ,q]
     · refine⟨h4,S4,av,acc,hbk h2 S2 l5 fr2 mk uZ cnd e4 h4 av acc h4 m1 m2 m3 m4 ln (fun q=>absurd q hgt) (fun _=>rfl),m5,m6,m7,m9, ?_⟩
       rcases m10 with q|⟨_,q⟩
       · exact q
       · exact absurd q hgt
 · rw [hnone]
   have key:∃h3 S3,St c S3 h3 ov∧Fr c h ov h3 ov∧S3.e=700∧h3.get a=some (ints cl)∧aP (aV AP.A) bL (.cond (.t 31) (.qZ [⟨some 32,.mv (.t 0),none⟩,⟨some 33,.call (.c (.fn 45 [] [])) [(.t 32),(.c (.int .i64 700))],none⟩] [0,1,5]) .skip [0,1,5]) [(0,.aH c.s 0),(1,I many),(5,.aH a 0),(31,.bool (ze cl !=0))] h2=some (.normal,[(0,.aH c.s 0),(1,I many),(5,.aH a 0)],h3):=by
    by_cases hck:ze cl=0
    · have hb:S2.e≠0:=by rcases hbad with q|q;exact absurd hck q;exact q
      refine⟨h2,S2,l5,fr2,by rcases he2 with q|q;exact absurd q hb;exact q,l6, ?_⟩
      have cb:(ze cl !=0)=false:=xe hck
      simp only[go_sem,cb]
    · obtain⟨h3,f1,f2,f3⟩:=zP l5 700
      refine⟨h3,yQ 700 S2,f2,fr2.trans f3,by rcases he2 with q|q<;>simp [yQ,q],by rw[f3.CR a (h2.lt _ _ l6) hac.1 hac.2 hoa];exact l6, ?_⟩
      have cb:(ze cl !=0)=true:=xh hck
      simp only[I]at *
      simp only[go_sem,cb,f1]
   obtain⟨h3,S3,st3,fr3,he3,hg3,cnd⟩:=key
   have sla3:oJ h3 19 1 (.aH a 0) none none=some (.aI a 0 19 1):=by
    simp [oJ,hg3,aF,hcll]
   have rdc3:Rd h3 (.aI a 0 19 1) (ints cl):=by
    refine⟨?_,by intro s e;cases e⟩
    simp [aW,hg3,hcll,yC]
   have mk3:=BR h3 (.aI a 0 19 1) cl (by omega) hclb rdc3
   obtain⟨e4,m1,m2,m3,m4⟩:=AA st3 (y8 cl) many (av:=.aT) (acc:=[]) (.inl ⟨rfl,rfl⟩) (.inr ⟨by simpa using hm0,by rw[he3];decide⟩)
   exact⟨h3,S3,.aT,[],hbk h3 S3 st3 fr3 mk3 sla3 cnd e4 h3 .aT [] h3 m1 m2 m3 m4 rfl (fun q=>by simp at q) (fun _=>rfl),st3,fr3,.inl ⟨rfl,rfl⟩,(fun i q=>by cases q),he3⟩
def zV (l:List Int):Prop:=∀y∈l,0≤y∧y<16
theorem FX {t : ByteArray} {y : Int} {acc : List Int} {n : Int} {q times p2 : Nat} (hy : 0 ≤ y ∧ y < 19) (ha : zV acc) (h : zk t y acc q = some (n, times, p2)) : 0 ≤ n ∧ n < 16 := by
 unfold zk at h
 split at h
 · split at h
   · cases h
   · rename_i hn
     split at h
     · have:=Q5 (fun o=>o.map (·.1)) h
       simp only[QN,xS]at this
       rw[←this]
       have hl:0<acc.length:=List.length_pos_iff.2 hn
       refine ha _ ?_
       rw[List.getD_eq_getElem?_getD,Q1 (by omega)]
       exact List.getElem_mem _
     · cases h
 · split at h
   · split at h
     · have:=Q5 (fun o=>o.map (·.1)) h
       simp only[QN,xS]at this;omega
     · cases h
   · split at h
     · split at h
       · have:=Q5 (fun o=>o.map (·.1)) h
         simp only[QN,xS]at this;omega
       · cases h
     · have:=Q5 (fun o=>o.map (·.1)) h
       simp only[QN,xS]at this;omega
theorem Cj {t : ByteArray} {cl : List Int} (hcl : cl.length = 19) {many : Nat} : ∀ {f : Nat} {acc : List Int} {p : Nat} {L : List Int} {p2 : Nat}, zV acc → zf t cl many f acc p = some (L, p2) → zV L
 |0,_,_,_,_,_,h=>by cases h
 | f + 1, acc, p, L, p2, ha, h => by
   rw[zf]at h
   split at h
   · split at h
     · cases h
     · rename_i y p1 hs
       have sb:=Ad hs
       split at h
       · cases h
       · rename_i n times q hag
         have hr:=FX ⟨sb.1,by omega⟩ ha hag
         exact Cj hcl (fun y hy=>by
          rcases List.mem_append.1 hy with hy|hy
          · exact ha y hy
          · obtain⟨_,rfl⟩:=List.mem_replicate.1 hy;exact hr) h
   · split at h
     · cases h
     · have:=Q5 (fun o=>o.map (·.1)) h
       simp only[QN,xS]at this;rw[←this];exact ha
theorem FJ (t:ByteArray):∀(r:List Int) (p:Nat) (o:List Int),(DV t r p o).length=o.length
 |[],_,_=>rfl
 |s::r,p,o=>by rw[DV,FJ t r];simp
theorem Ej {t:ByteArray} {many p:Nat} {L:List Int} {p2:Nat} (h:Ax t many p=some (L,p2)):zV L:=by
 unfold Ax at h
 split at h
 · dsimp only at h
   split at h
   · split at h
     · exact Cj (by rw[FJ];simp) (fun y hy=>by cases hy) h
     · cases h
   · cases h
 · cases h
def DS (t : ByteArray) (most : Int) (p : Nat) (out : List Nat) : Rs :=
 if p+10≤8* t.size then
  let lits:=yN t p 5+257
  let dists:=yN t (p+5) 5+1
  if 286<lits∨30<dists then .error 700 else
  match Ax t (lits+dists) (p+10)with
  |none=>.error 700
  | some (L, p2) =>
    if ze (L.take lits)≠0∨(L.take lits).getD 256 0=0∨(ze (L.drop lits)≠0∧zu (L.drop lits)=false)then .error 700
    else zX t most (L.take lits) (L.drop lits) (8* t.size+1) p2 out
 else .error 700
theorem Hj {c : SC} {S : SS} {h : H} {ov : AV} (st : St c S h ov) (he : S.e = 0) :
 ∃h' ov' S',aV AP.A 44 [.aH c.s 0] h=some (.cf [],h')∧St c S' h' ov'∧Fr c h ov h' ov'∧Fin (DS c.text c.most S.at_ S.out) S':=by
 obtain⟨h1,a1,a2,a3⟩:=AW st 5 5 rfl (by omega)
 obtain⟨h2,b1,b2,b3⟩:=AW a2 5 5 rfl (by omega)
 obtain⟨A,hA⟩:∃n,n=(yP c 5 S).1:=⟨_,rfl⟩
 obtain⟨S1,hS1⟩:∃n,n=(yP c 5 S).2:=⟨_,rfl⟩
 rw[←hA]at a1;rw[←hS1]at a2 b1 b2
 obtain⟨B,hB⟩:∃n,n=(yP c 5 S1).1:=⟨_,rfl⟩
 obtain⟨S2,hS2⟩:∃n,n=(yP c 5 S1).2:=⟨_,rfl⟩
 rw[←hB]at b1;rw[←hS2]at b2
 have g5:∀S,(yP c 5 S).1<32:=fun S=>by
  unfold yP;split
  · simpa using zg c.text S.at_ 5
  · simp
 have hA32:A<32:=hA ▸ g5 S
 have hB32:B<32:=hB ▸ g5 S1
 have w1:IntKind.wrap .i64 ((A:Int)+257)=((A+257:Nat):Int):=yJ (n:=A+257) (by omega)
 have w2:IntKind.wrap .i64 ((B:Int)+1)=((B+1:Nat):Int):=yJ (n:=B+1) (by omega)
 have gs2:=b2.gs
 have he2:S2.e=0∨S2.e=700:=by rw[hS2];exact Gm c 5 _ (by rw[hS1];exact Gm c 5 S (.inl he))
 have fr2:=a3.trans b3
 have bad:(S2.e≠0∨286<A+257∨30<B+1)→∃h' ov' S',aV AP.A 44 [.aH c.s 0] h=some (.cf [],h')∧St c S' h' ov'∧Fr c h ov h' ov'∧S'.e=700∧(700:Int)≠0:=by
  intro hb
  obtain⟨h3,f1,f2,f3⟩:=zP b2 700
  refine⟨h3,ov,yQ 700 S2, ?_,f2,fr2.trans f3,by rcases he2 with q|q<;>simp [yQ,q],by decide⟩
  refine wF (fn:=AP.f44) (e:=[]) (vs:=[]) rfl rfl rfl ?_ rfl
  by_cases c1:S2.e=0
  · have c1':=xe c1
    by_cases c2:286<A+257
    · have c2':(286:Int)<((A+257:Nat):Int):=by omega
      simp only[I]at *
      simp only[AP.f44,go_sem,a1,b1,w1,w2,gs2,c1',QM c2',f1]
    · have c2':¬(286:Int)<((A+257:Nat):Int):=by omega
      have c3':(30:Int)<((B+1:Nat):Int):=by
       rcases hb with q|q|q
       · exact absurd c1 q
       · exact absurd q c2
       · omega
      simp only[I]at *
      simp only[AP.f44,go_sem,a1,b1,w1,w2,gs2,c1',QL c2',QM c3',f1]
  · have c1':=xh c1
    simp only[I]at *
    simp only[AP.f44,go_sem,a1,b1,w1,w2,gs2,c1',f1]
 unfold DS
 by_cases hp:S.at_+10≤8* c.text.size
 · have e1 : yP c 5 S = (yN c.text S.at_ 5, { S with at_ := S.at_ + 5 }) := by rw [yP, if_pos (by omega)]
   rw[e1]at hA hS1;dsimp only at hA hS1
   have e2:yP c 5 {S with at_:=S.at_+5}=(yN c.text (S.at_+5) 5,{S with at_:=S.at_+5+5}):=by rw[yP,if_pos (by show S.at_+5+5≤_;omega)]
   rw[hS1,e2]at hB hS2;dsimp only at hB hS2
   rw[if_pos hp]
   dsimp only
   rw[←hA,←hB]
   by_cases hbig:286<A+257∨30<B+1
   · rw[if_pos hbig];exact bad (.inr hbig)
   · rw [if_neg hbig]
     have c1':(S2.e !=0)=false:=xe (by rw[hS2];exact he)
     have c2':¬(286:Int)<((A+257:Nat):Int):=by omega
     have c3':¬(30:Int)<((B+1:Nat):Int):=by omega
     have w3:IntKind.wrap .i64 (((A+257:Nat):Int)+((B+1:Nat):Int))=((A+257+(B+1):Nat):Int):=by
      rw[show((A+257:Nat):Int)+((B+1:Nat):Int)=((A+257+(B+1):Nat):Int)by omega];exact yJ (by omega)
     obtain⟨h3,S3,av,acc,l1,l2,l3,l4,l5,l6⟩:=Hs b2 (by rw[hS2];exact he) (A+257+(B+1)) (by omega) (by omega)
     have gs3:=l2.gs
     have hat2:S2.at_=S.at_+10:=by rw[hS2]
     rw[hat2]at l6
     cases hL:Ax c.text (A+257+(B+1)) (S.at_+10)with
     | none =>
       rw[hL]at l6
       have c4:(S3.e !=0)=true:=xh (by rw[l6];decide)
       refine⟨h3,ov,S3, ?_,l2,fr2.trans l3,l6,by decide⟩
       refine wF (fn:=AP.f44) (e:=[(0,.aH c.s 0),(2,I (A+257:Nat)),(4,av),(37,.bool true)]) (vs:=[]) rfl rfl rfl ?_ rfl
       simp only[I]at *
       simp only[AP.f44,go_sem,a1,b1,w1,w2,gs2,c1',QL c2',QL c3',w3,l1,gs3,c4]
     | some q =>
       obtain⟨L,p2⟩:=q
       rw[hL]at l6
       obtain⟨l6,l7,l8⟩:=l6
       subst l7
       have hrng:=Ej hL
       dsimp only
       have he3:S3.e=0:=by rw[l6,hS2];exact he
       have c4:(S3.e !=0)=false:=xe he3
       obtain⟨id,hav,hgid⟩:∃id,av=.aI id 0 (A+257+(B+1)) 1∧h3.get id=some (ints acc):=by
        rcases l4 with ⟨_,q⟩|⟨id,q1,q2,_⟩
        · have:=Q5 List.length q;rw[sD,l8,QU]at this;omega
        · exact⟨id,by rw[q1,sD,l8],q2⟩
       have hil:(ints acc).length=A+257+(B+1):=by rw[sD,l8]
       have s1:=EJ (h:=h3) (k:=A+257) hgid hil (ya _) (by omega)
       have s2:=F3 (h:=h3) (k:=A+257) hgid hil (by omega)
       rw[show A+257+(B+1)-(A+257)=B+1 by omega]at s2
       rw[←hav]at s1 s2
       obtain⟨la,hla⟩:∃x,x=acc.take (A+257):=⟨_,rfl⟩
       obtain⟨lb,hlb⟩:∃x,x=acc.drop (A+257):=⟨_,rfl⟩
       have hlal:la.length=A+257:=by rw[hla,List.length_take];omega
       have hlbl:lb.length=B+1:=by rw[hlb,List.length_drop];omega
       have ra:Rd h3 (.aI id 0 (A+257) 1) (ints la):=by
        refine⟨?_,by intro s e;cases e⟩
        simp only[aW,if_true,hgid,xX]
        rw[if_pos (by rw[hil];omega),hla];simp [ints,List.map_take];omega
       have rb:Rd h3 (.aI id (A+257) (B+1) 1) (ints lb):=by
        refine⟨?_,by intro s e;cases e⟩
        simp only[aW,if_true,hgid,xX]
        rw[if_pos (by rw[hil];omega),hlb]
        have:(ints (acc.drop (A+257))).length=B+1:=by rw[sD,←hlb,hlbl]
        rw[this,ints,ints,←List.map_drop,Q3,yC (by rw[List.length_map,←hlb,hlbl];omega)]
       rw[←hla,←hlb]
       have cka:=EL h3 _ la (by omega) ra
       have ckb:=EL h3 _ lb (by omega) rb
       have hra:zV la:=fun y hy=>hrng y (List.mem_of_mem_take (hla ▸ hy))
       have hrb:zV lb:=fun y hy=>hrng y (List.mem_of_mem_drop (hlb ▸ hy))
       have sgb:=II h3 _ lb (by omega) hrb rb
       have mka:=BR h3 _ la (by omega) hra ra
       have mkb:=BR h3 _ lb (by omega) hrb rb
       have hel:=BD (l:=la) (i:=256) (by omega)
       obtain⟨ad,p1,p2'⟩:=ra.elem hel
       have p3:=p2' h3 (fun _ _ q=>q)
       have p1':iy 1 (.aI id 0 (A+257) 1) (I 256)=some ad:=p1
       clear p1 p2'
       obtain⟨cb,hcb⟩:∃b:Bool,(b=true↔ze la≠0∨la.getD 256 0=0∨(ze lb≠0∧zu lb=false)):=⟨decide _,decide_eq_true_iff⟩
       have step:∀k,aP (aV AP.A) bL k [(0,.aH c.s 0),(2,I (A+257:Nat)),(4,av)] h3=aP (aV AP.A) bL k [(0,.aH c.s 0),(2,I (A+257:Nat)),(4,av)] h3:=fun _=>rfl
       by_cases hbad:ze la≠0∨la.getD 256 0=0∨(ze lb≠0∧zu lb=false)
       · rw [if_pos hbad]
         obtain⟨h4,f1,f2,f3⟩:=zP l2 700
         refine⟨h4,ov,yQ 700 S3, ?_,f2,(fr2.trans l3).trans f3,by simp [yQ,he3],by decide⟩
         refine wF (fn:=AP.f44) (e:=[]) (vs:=[]) rfl rfl rfl ?_ rfl
         by_cases d1:ze la=0
         · have d1':=xe d1
           by_cases d2:la.getD 256 0=0
           · have d2':=xc d2
             simp only[I]at *
             simp only[AP.f44,go_sem,a1,b1,w1,w2,gs2,c1',QL c2',QL c3',w3,l1,gs3,c4,QN,QP,s1,s2,cka,d1',p1',p3,d2',f1]
           · have d2':=xb d2
             obtain⟨d3,d4⟩:ze lb≠0∧zu lb=false:=by
              rcases hbad with q|q|q
              · exact absurd d1 q
              · exact absurd q d2
              · exact q
             have d3':=xh d3
             rw[d4]at sgb
             simp only[I]at *
             simp only[AP.f44,go_sem,a1,b1,w1,w2,gs2,c1',QL c2',QL c3',w3,l1,gs3,c4,QN,QP,s1,s2,cka,d1',p1',p3,d2',ckb,d3',sgb,f1]
         · have d1':=xh d1
           simp only[I]at *
           simp only[AP.f44,go_sem,a1,b1,w1,w2,gs2,c1',QL c2',QL c3',w3,l1,gs3,c4,QN,QP,s1,s2,cka,d1',f1]
       · rw [if_neg hbad]
         have d1:ze la=0:=Decidable.byContradiction fun q=>hbad (.inl q)
         have d2:la.getD 256 0≠0:=fun q=>hbad (.inr (.inl q))
         have d1':=xe d1
         have d2':=xb d2
         obtain⟨h4,ov4,S4,q1,q2,q3,q4⟩:=GF la lb (by omega) (by omega) l2 he3
         refine⟨h4,ov4,S4, ?_,q2,(fr2.trans l3).trans q3, ?_⟩
         · refine zh (fn:=AP.f44) (e:=[]) (vs:=[]) rfl rfl rfl ?_ rfl
           by_cases d3:ze lb=0
           · have d3':=xe d3
             simp only[I]at *
             simp only[AP.f44,go_sem,a1,b1,w1,w2,gs2,c1',QL c2',QL c3',w3,l1,gs3,c4,QN,QP,s1,s2,cka,d1',p1',p3,d2',ckb,d3',mka,mkb,q1]
           · have d3':=xh d3
             have d4:zu lb=true:=by
              cases hs:zu lb with
              |true=>rfl
              |false=>exact absurd (.inr (.inr ⟨d3,hs⟩)) hbad
             rw[d4]at sgb
             simp only[I]at *
             simp only[AP.f44,go_sem,a1,b1,w1,w2,gs2,c1',QL c2',QL c3',w3,l1,gs3,c4,QN,QP,s1,s2,cka,d1',p1',p3,d2',ckb,d3',sgb,mka,mkb,q1]
         · have:S3.at_=p2:=by rw[l6]
           have ho:S3.out=S.out:=by rw[l6,hS2]
           rw[this,ho]at q4;exact q4
 · rw[if_neg hp]
   refine bad (.inl ?_)
   rw[hS2,hS1]
   unfold yP
   by_cases q1:S.at_+5≤8* c.text.size
   · simp only[if_pos q1];rw[if_neg (by omega)];simp [yQ,he]
   · simp only[if_neg q1,yQ,he,if_true];split<;>simp
def AE (t : ByteArray) (most : Int) (p : Nat) (out : List Nat) : Except Int (Bool × Nat × List Nat) :=
 if p+3≤8* t.size then
  let r:Rs:=if yN t (p+1) 2=0 then Az t most (p+3) out
   else if yN t (p+1) 2=1 then zX t most zq (List.replicate 30 5) (8* t.size+1) (p+3) out
   else if yN t (p+1) 2=2 then DS t most (p+3) out
   else .error 700
  match r with
  | .ok q=>.ok (yN t p 1==1,q.1,q.2)
  | .error k=>.error k
 else .error 700
def Nd (r:Except Int (Bool×Nat×List Nat)) (b:Bool) (S:SS):Prop:=match r with
 | .ok q=>b=q.1∧S=⟨q.2.1,q.2.2,0⟩
 | .error k=>S.e=k∧k≠0
theorem AG:zq.length=288:=by simp only[zq,yH,QV]
theorem Gi:zV zq:=by
 intro y hy
 simp only[zq,List.mem_append]at hy
 rcases hy with hy|hy|hy|hy<;>(obtain⟨_,rfl⟩:=List.mem_replicate.1 hy;omega)
theorem Hl:zV (List.replicate 30 5):=by
 intro y hy
 obtain⟨_,rfl⟩:=List.mem_replicate.1 hy;omega
theorem Jl {c : SC} {S : SS} {h : H} {ov : AV} (st : St c S h ov) (he : S.e = 0) :
 ∃h' ov' S' b,aV AP.A 15 [.aH c.s 0] h=some (.bool b,h')∧St c S' h' ov'∧Fr c h ov h' ov'∧Nd (AE c.text c.most S.at_ S.out) b S':=by
 obtain⟨h1,a1,a2,a3⟩:=AW st 1 1 rfl (by omega)
 obtain⟨h2,b1,b2,b3⟩:=AW a2 2 2 rfl (by omega)
 obtain⟨A,hA⟩:∃n,n=(yP c 1 S).1:=⟨_,rfl⟩
 obtain⟨S1,hS1⟩:∃n,n=(yP c 1 S).2:=⟨_,rfl⟩
 rw[←hA]at a1;rw[←hS1]at a2 b1 b2
 obtain⟨B,hB⟩:∃n,n=(yP c 2 S1).1:=⟨_,rfl⟩
 obtain⟨S2,hS2⟩:∃n,n=(yP c 2 S1).2:=⟨_,rfl⟩
 rw[←hB]at b1;rw[←hS2]at b2
 have gs2:=b2.gs
 have fr2:=a3.trans b3
 obtain⟨lb,hlb⟩:∃b:Bool,b=((A:Int)==1):=⟨_,rfl⟩
 unfold AE
 by_cases hp:S.at_+3≤8* c.text.size
 · rw [if_pos hp]
   have e1:yP c 1 S=(yN c.text S.at_ 1,{S with at_:=S.at_+1}):=by rw[yP,if_pos (by omega)]
   rw[e1]at hA hS1;dsimp only at hA hS1
   have e2:yP c 2 {S with at_:=S.at_+1}=(yN c.text (S.at_+1) 2,{S with at_:=S.at_+1+2}):=by rw[yP,if_pos (by show S.at_+1+2≤_;omega)]
   rw[hS1,e2]at hB hS2;dsimp only at hB hS2
   have he2:S2.e=0:=by rw[hS2];exact he
   have hat:S2.at_=S.at_+3:=by rw[hS2]
   have hout:S2.out=S.out:=by rw[hS2]
   dsimp only
   rw[←hA,←hB]
   have hlb2:lb=(A==1):=by
    rw[hlb];by_cases q:A=1
    · subst q;rfl
    · rw[xb (by omega)];symm;simp [q]
   have wrap:∀(r:Rs) (h':H) (ov':AV) (S':SS),aV AP.A 15 [.aH c.s 0] h=some (.bool lb,h')→St c S' h' ov'→Fr c h2 ov h' ov'→Fin r S'→∃h' ov' S' b,aV AP.A 15 [.aH c.s 0] h=some (.bool b,h')∧St c S' h' ov'∧Fr c h ov h' ov'∧Nd (match r with| .ok q=>.ok (A==1,q.1,q.2)| .error k=>.error k) b S':=by
    intro r h' ov' S' q1 q2 q3 q4
    refine⟨h',ov',S',lb,q1,q2,fr2.trans q3, ?_⟩
    cases r with
    |ok q=>exact⟨hlb2,q4⟩
    |error k=>exact q4
   have c0:(S2.e==0)=true:=xc he2
   by_cases d0:B=0
   · rw[if_pos d0]
     obtain⟨h',ov',S',q1,q2,q3,q4⟩:=I5 b2 he2
     rw[hat,hout]at q4
     refine wrap _ h' ov' S' ?_ q2 q3 q4
     have d0':((B:Int)==0)=true:=xc (by omega)
     refine wF (fn:=AP.f15) (e:=[(2,.bool lb)]) rfl rfl rfl ?_ rfl
     simp only[I]at *
     simp only[AP.f15,go_sem,a1,b1,←hlb,d0',gs2,c0,q1]
   · rw [if_neg d0]
     have d0':((B:Int)==0)=false:=xb (by omega)
     by_cases d1:B=1
     · rw[if_pos d1]
       have d1':((B:Int)==1)=true:=xc (by omega)
       have f1:=Ju h2
       have m1:=BR h2 (zj zq) zq (by rw[AG];omega) Gi (AJ _ _)
       have al:=b2.alloc [I 5]
       have r1:=AZ (h2.alloc [I 5]) (.aI h2.next 0 1 1) 5 30 (by omega) (BG _ _)
       have r1':aV AP.A 43 [.aI h2.next 0 1 1,I 30] (h2.alloc [I 5])=some (zj (List.replicate 30 5),h2.alloc [I 5]):=by
        rw[zj,QV];exact r1
       have m2:=BR (h2.alloc [I 5]) (zj (List.replicate 30 5)) (List.replicate 30 5) (by rw[QV];omega) Hl (AJ _ _)
       obtain⟨h',ov',S',q1,q2,q3,q4⟩:=GF zq (List.replicate 30 5) (by rw[AG];omega) (by rw[QV];omega) al.1 he2
       rw[hat,hout]at q4
       refine wrap _ h' ov' S' ?_ q2 (al.2.trans q3) q4
       refine wF (fn:=AP.f15) (e:=[(2,.bool lb)]) rfl rfl rfl ?_ rfl
       clear r1
       generalize y8 zq=bf at *
       generalize y8 (List.replicate 30 5)=bd at *
       generalize zj zq=vf at *
       generalize zj (List.replicate 30 5)=vd at *
       simp only[I]at *
       simp only[AP.f15,go_sem,a1,b1,←hlb,d0',d1',f1,m1,Ns,I,r1',m2,q1]
     · rw[if_neg d1]
       have d1':((B:Int)==1)=false:=xb (by omega)
       by_cases d2:B=2
       · rw[if_pos d2]
         have d2':((B:Int)==2)=true:=xc (by omega)
         obtain⟨h',ov',S',q1,q2,q3,q4⟩:=Hj b2 he2
         rw[hat,hout]at q4
         refine wrap _ h' ov' S' ?_ q2 q3 q4
         refine wF (fn:=AP.f15) (e:=[(2,.bool lb)]) rfl rfl rfl ?_ rfl
         simp only[I]at *
         simp only[AP.f15,go_sem,a1,b1,←hlb,d0',d1',d2',q1]
       · rw[if_neg d2]
         have d2':((B:Int)==2)=false:=xb (by omega)
         obtain⟨h',q1,q2,q3⟩:=zP b2 700
         refine wrap (.error 700) h' ov _ ?_ q2 q3 ⟨by simp [yQ,he2],by decide⟩
         refine wF (fn:=AP.f15) (e:=[(2,.bool lb)]) rfl rfl rfl ?_ rfl
         simp only[I]at *
         simp only[AP.f15,go_sem,a1,b1,←hlb,d0',d1',d2',q1]
 · rw [if_neg hp]
   have hB0:B=0∧S2.e=700:=by
    by_cases q1:S.at_+1≤8* c.text.size
    · have e1:yP c 1 S=(yN c.text S.at_ 1,{S with at_:=S.at_+1}):=by rw[yP,if_pos q1]
      rw[e1]at hS1;dsimp only at hS1
      have e2:yP c 2 S1=(0,{S1 with e:=700}):=by rw[yP,if_neg (by rw[hS1];show¬S.at_+1+2≤_;omega),yQ,if_pos (by rw[hS1];exact he)]
      rw[e2]at hB hS2
      exact⟨hB,by rw[hS2]⟩
    · have e1:yP c 1 S=(0,{S with e:=700}):=by rw[yP,if_neg q1,yQ,if_pos he]
      rw[e1]at hS1;dsimp only at hS1
      have e2:yP c 2 S1=(0,S1):=by rw[yP,if_neg (by rw[hS1];show¬S.at_+2≤_;omega),yQ,if_neg (by rw[hS1];simp)]
      rw[e2]at hB hS2
      exact⟨hB,by rw[hS2,hS1]⟩
   have d0':((B:Int)==0)=true:=xc (by omega)
   have c0:(S2.e==0)=false:=xb (by rw[hB0.2];decide)
   refine⟨h2,ov,S2,lb, ?_,b2,fr2,hB0.2,by decide⟩
   refine wF (fn:=AP.f15) (e:=[(2,.bool lb)]) rfl rfl rfl ?_ rfl
   simp only[I]at *
   simp only[AP.f15,go_sem,a1,b1,←hlb,d0',gs2,c0]
def zR (t : ByteArray) (most : Int) : Nat → Nat → List Nat → Rs
 |0,_,_=>.error 700
 | f + 1, p, out => match AE t most p out with
   | .error k=>.error k
   | .ok (last,p2,o)=>if last then .ok (p2,o)else zR t most f p2 o
theorem Fv {c:SC} {S:SS} {h:H} {ov:AV} (st:St c S h ov) (b:Bool) (hs:b=true∨S.e≠0):
 ∃e',Lp AP.A [7,8] AP.f7L0 [(7,.aH c.s 0),(8,.bool b)] h=some (.exit 0,e',h)∧look e' 7=.aH c.s 0:=by
 have gs:=st.gs
 refine⟨[(7,.aH c.s 0),(28,.bool false)],wh ?_,rfl⟩
 cases b with
 | true =>
   simp only[I]at *
   simp only[AP.f7L0,go_sem]
 | false =>
   have c2:(S.e==0)=false:=xb (by rcases hs with q|q;cases q;exact q)
   simp only[I]at *
   simp only[AP.f7L0,go_sem,gs,c2]
theorem CJ {t:ByteArray} {most:Int}:∀{n p:Nat} {out:List Nat} {p2:Nat} {o:List Nat},zG t most n p out=.ok (p2,o)→p≤p2
 |0,p,out,p2,o,h=>by rw[zG]at h;cases h;exact ya _
 | n + 1, p, out, p2, o, h => by
   rw[zG]at h
   split at h
   · split at h
     · cases h
     · have:=CJ h;omega
   · cases h
theorem AR {t : ByteArray} {most : Int} {ll dl : List Int} : ∀ {k p : Nat} {out : List Nat} {p2 : Nat} {o : List Nat}, zX t most ll dl k p out = .ok (p2, o) → p < p2
 |0,_,_,_,_,h=>by cases h
 | k + 1, p, out, p2, o, h => by
   rw[zX]at h
   split at h
   · cases h
   · rename_i y p1 hs
     have sb:=Ad hs
     split at h
     · split at h
       · cases h
       · have:=AR h;omega
     · split at h
       · cases h;omega
       · split at h
         · rename_i p3 o3 hc
           have:=Fg hc
           have:=AR h;omega
         · cases h
theorem CQ {t : ByteArray} {cl : List Int} {many : Nat} : ∀ {f : Nat} {acc : List Int} {p : Nat} {L : List Int} {p2 : Nat}, zf t cl many f acc p = some (L, p2) → p ≤ p2
 |0,_,_,_,_,h=>by cases h
 | f + 1, acc, p, L, p2, h => by
   rw[zf]at h
   split at h
   · split at h
     · cases h
     · rename_i y p1 hs
       have sb:=Ad hs
       split at h
       · cases h
       · rename_i n times q hag
         have:=CQ h
         have:p1≤q:=by
          unfold zk at hag
          repeat' split at hag
          all_goals first
           |(cases hag;done)
           |(have:=Q5 (fun o=>o.map (·.2.2)) hag;simp only[QN,xS]at this;omega)
         omega
   · split at h
     · cases h
     · have:=Q5 (fun o=>o.map (·.2)) h
       simp only[QN,xS]at this;omega
theorem D7 {t : ByteArray} {most : Int} {p : Nat} {out : List Nat} {q : Bool × Nat × List Nat} (h : AE t most p out = .ok q) : p < q.2.1 := by
 unfold AE at h
 split at h
 · dsimp only at h
   have key:∀{r:Rs},(match r with| .ok q=>Except.ok (yN t p 1==1,q.1,q.2)| .error k=>.error k)=Except.ok (ε:=Int) q→∃z,r=.ok z∧z.1=q.2.1:=by
    intro r h
    cases r with
    |ok z=>cases h;exact⟨z,rfl,rfl⟩
    |error k=>cases h
   obtain⟨z,h1,h2⟩:=key h
   rw[←h2]
   split at h1
   · unfold Az at h1
     dsimp only at h1
     split at h1
     · split at h1
       · have:=CJ h1;omega
       · cases h1
     · cases h1
   · split at h1
     · have:=AR h1;omega
     · split at h1
       · unfold DS at h1
         split at h1
         · dsimp only at h1
           split at h1
           · cases h1
           · split at h1
             · cases h1
             · rename_i L p2 hl
               split at h1
               · cases h1
               · have:=AR h1
                 have:p+3≤p2:=by
                  unfold Ax at hl
                  split at hl
                  · dsimp only at hl
                    split at hl
                    · split at hl
                      · have:=CQ hl;omega
                      · cases hl
                    · cases hl
                  · cases hl
                 omega
         · cases h1
       · cases h1
 · cases h
theorem Fu {c : SC} : ∀ (f : Nat) (S : SS) (h : H) (ov : AV), St c S h ov → S.e = 0 → 8 * c.text.size < S.at_ + f →
 ∃e' h' ov' S',Lp AP.A [7,8] AP.f7L0 [(7,.aH c.s 0),(8,.bool false)] h=some (.exit 0,e',h')∧look e' 7=.aH c.s 0∧St c S' h' ov'∧Fr c h ov h' ov'∧Fin (zR c.text c.most f S.at_ S.out) S'
 |0,S,h,ov,st,he,hk=>by have:=st.zC;omega
 | f + 1, S, h, ov, st, he, hk => by
   have gs:=st.gs
   obtain⟨h1,ov1,S1,b,q1,q2,q3,q4⟩:=Jl st he
   have step:aP (aV AP.A) bL AP.f7L0 (aC [(7,.aH c.s 0),(8,.bool false)] [7,8]) h=some (.normal,[(7,.aH c.s 0),(8,.bool b)],h1):=by
    simp only[I]at *
    simp only[AP.f7L0,go_sem,gs,he,q1]
   rw[zR]
   cases hb:AE c.text c.most S.at_ S.out with
   | error k =>
     rw[hb]at q4
     obtain⟨e',r1,r2⟩:=Fv q2 b (.inr (by rw[q4.1];exact q4.2))
     exact⟨e',h1,ov1,S1,wj step r1,r2,q2,q3,q4⟩
   | ok z =>
     obtain⟨last,p2,o⟩:=z
     rw[hb]at q4
     obtain⟨q5,q6⟩:=q4
     dsimp only at q5 q6 ⊢
     subst q5
     cases b with
     | true =>
       obtain⟨e',r1,r2⟩:=Fv q2 true (.inl rfl)
       exact⟨e',h1,ov1,S1,wj step r1,r2,q2,q3,q6⟩
     | false =>
       have hge:=D7 hb
       dsimp only at hge
       subst q6
       obtain⟨e',h',ov',S',r1,r2,r3,r4,r5⟩:=Fu f _ h1 ov1 q2 rfl (by dsimp only;omega)
       exact⟨e',h',ov',S',wj step r1,r2,r3,q3.trans r4,r5⟩
def bytesOf (l:List Nat):ByteArray:=⟨(l.map UInt8.ofNat).toArray⟩
def Aa (t:ByteArray) (most:Int):Except Int (List Nat×Nat):=
 if most<0∨8192<most then .error 700 else
 match zR t most (8* t.size+1) 0 []with
 | .ok q=>.ok (q.2,(q.1+7)/8)
 | .error k=>.error k
def Hq (r:Except Int (List Nat×Nat)):AV:=match r with
 | .ok q=>.cf [.str (bytesOf q.1),I q.2,I 0]
 | .error k=>.cf [.str ⟨#[]⟩,I 0,I k]
theorem Gz:∀l:List Nat,mZ (DR l)=some (l.map UInt8.ofNat)
 |[]=>rfl
 | x :: l => by
   have:DR (x::l)=.int .u8 x::DR l:=rfl
   rw[this,mZ,Gz l];simp
theorem GA {h:H} {v:AV} {l:List Nat} (o:pP h v (DR l)):wO h v (aW h 1 v)=some (.str (bytesOf l),h):=by
 rcases o with ⟨rfl,q⟩|⟨id,rfl,q,_⟩
 · have:l=[]:=by cases l with|nil=>rfl|cons _ _=>cases q
   subst this;rfl
 · simp only[aW,if_true,q,xX]
   rw[if_pos (by omega)]
   have:((DR l).drop 0).take ((DR l).length* 1)=DR l:=by rw[QX,Q3,List.take_length]
   rw[this]
   simp only[wO,xX,Gz];rfl
theorem Hr (h : H) (hf : h.floor ≤ h.next) (t : ByteArray) (most : Int) (hs : t.size < 1125899906842624) : aV AP.A 7 [.str t, I most] h = some (Hq (Aa t most), h) := by
 unfold Aa
 by_cases c1:most<0
 · rw[if_pos (.inl c1)]
   refine wX (fn:=AP.f7) (h2:=h.eY) (e:=[(4,.str ⟨#[]⟩),(5,I 0),(6,I 700)]) rfl rfl rfl ?_ rfl rfl
   simp only[I]at *
   simp only[AP.f7,go_sem,QM c1]
 by_cases c2:8192<most
 · rw[if_pos (.inr c2)]
   refine wX (fn:=AP.f7) (h2:=h.eY) (e:=[(4,.str ⟨#[]⟩),(5,I 0),(6,I 700)]) rfl rfl rfl ?_ rfl rfl
   simp only[I]at *
   simp only[AP.f7,go_sem,QL c1,QM c2]
 rw[if_neg (by omega)]
 obtain⟨h1,hh1⟩:∃g,g=h.eY.alloc [.str t,I 0]:=⟨_,rfl⟩
 obtain⟨h2,hh2⟩:∃g,g=h1.alloc [.aH h.next 0,.aT,I most,I 0]:=⟨_,rfl⟩
 have of1:=Qk h.eY t
 rw[←hh1]at of1
 have n1:h1.next=h.next+1:=by rw[hh1];simp
 have st:St ⟨h.next+1,h.next,t,most⟩ ⟨0,[],0⟩ h2 .aT:=by
  refine⟨?_, ?_,.inl ⟨rfl,rfl⟩,by simp, ?_, ?_,by simp [AV.id?],by simp [AV.id?], ?_,hs,by simp,by simp;omega,by show most≤900000;omega⟩
  · rw[hh2,H.bc,if_pos n1.symm]
  · rw[hh2,H.bc,if_neg (by show h.next≠h1.next;omega),hh1,H.bc,if_pos (show h.next=h.eY.next from rfl)];rfl
  · rw[hh2,hh1];simp
  · rw[hh2,hh1];simp
  · rw[hh2,hh1];simp;omega
 obtain⟨e',h3,ov,S,q1,q2,q3,q4,q5⟩:=Fu (8* t.size+1) ⟨0,[],0⟩ h2 .aT st rfl (by show 8* t.size<0+(8* t.size+1);omega)
 have gs:=q3.gs
 have bx:∀e:Env,look e 18=.agg [.aH h.next 0,.aT,.int .i64 most,.int .i64 0]→bh e (.box 4 (.t 18))=some ([.aH h.next 0,.aT,.int .i64 most,.int .i64 0],fun i=>.aH i 0):=by
  intro e q;simp only[bh,vt,q];rfl
 have fl:eZ [.c9,.aT,.int .i64 0,.int .i64 0] [(0,1,.aH h.next 0),(2,1,.int .i64 most)]=some [.aH h.next 0,.aT,.int .i64 most,.int .i64 0]:=rfl
 have hn:h.eY.next=h.next:=rfl
 dsimp only at q5
 cases hi:zR t most (8* t.size+1) 0 []with
 | error k =>
   rw[hi]at q5
   have c3:(S.e !=0)=true:=xh (by rw[q5.1];exact q5.2)
   have hk:S.e=k:=q5.1
   refine wX (fn:=AP.f7) (h2:=h3) (e:=[(4,.str ⟨#[]⟩),(5,I 0),(6,I k)]) rfl rfl rfl ?_ rfl rfl
   simp only[I]at *
   simp only[AP.f7,go_sem,QL c1,QL c2,of1,hn,QY,Q2,fl]
   rw[bx _ rfl]
   rw[hk]at gs c3
   simp only[go_sem,←hh2,n1,vp,q1,q2,gs,c3]
 | ok z =>
   obtain⟨p,o⟩:=z
   rw[hi]at q5
   simp only[Fin]at q5
   have c3:(S.e !=0)=false:=xe (by rw[q5])
   obtain⟨h4,a1,a2,a3⟩:=q3.align
   have gs4:=a2.gs
   have gr4:=a2.gr
   have at4:=Qa h4 h.next t _ gr4
   have hb:=GA a2.own
   subst q5
   dsimp only at gs4 gr4 at4 hb a2 gs c3
   have hle:=a2.zC
   dsimp only at hle
   have qd:bH .quo (.int .i64 (((p+7)/8* 8:Nat):Int)) (.int .i64 8)=some (.int .i64 (((p+7)/8:Nat):Int)):=by
    rw[u9 _ _ _ (by omega),show(8:Int)=((8:Nat):Int)from rfl,zN,Nat.mul_div_cancel _ (by omega),yJ (by omega)]
   refine wX (fn:=AP.f7) (h2:=h4) (e:=[(4,.str (bytesOf o)),(5,I ((p+7)/8:Nat)),(6,I 0)]) rfl rfl rfl ?_ rfl rfl
   generalize (p+7)/8* 8=P8 at *
   generalize (p+7)/8=P at *
   simp only[I]at *
   simp only[AP.f7,go_sem,QL c1,QL c2,of1,hn,QY,Q2,fl]
   rw[bx _ rfl]
   simp only[go_sem,←hh2,n1,vp,q1,q2,gs,c3,a1]
   rw[EH (e':=[(6,.int .i64 0),(5,.int .i64 P),(4,.str (bytesOf o)),(55,.int .i64 P),(54,.int .i64 P8),(53,.aH h.next 0),(52,.aH (h.next+1) 0),(51,.aH (h.next+1) 0),(50,.aH (h.next+1) 0),(49,.str (bytesOf o)),(48,ov),(47,.aH (h.next+1) 1),(46,.aH (h.next+1) 0),(45,.aH (h.next+1) 0),(7,.aH (h.next+1) 0)]) (h':=h4) (gs:=[h4,h4])]
   · simp only[go_sem]
   · simp only[AY,Cz,Cy,CE,CD,cy.aS,go_sem,gs4,hb,at4,qd]
   · refine A3 (fun k hk=> ?_) (A3 (fun k hk=> ?_) rfl)
     · obtain rfl:k=1:=by simpa using hk
       refine A1 (o:=⟨some 48,.load false 1 (.t 47),none⟩) (g:=h4) (h':=h4) (d:=48) (u:=ov) rfl rfl rfl rfl ?_ ?_
       · simp only[aj,go_sem,gs4]
       · simp only[go_sem]
         rcases a2.own with ⟨rfl,_⟩|⟨id,rfl,_⟩
         · rfl
         · exact BX _ _ _ _
     · obtain rfl:k=1:=by simpa using hk
       refine A1 (o:=⟨some 49,.mZ (.t 48),none⟩) (g:=h4) (h':=h4) (d:=49) (u:=.str (bytesOf o)) rfl rfl rfl rfl ?_ ?_
       · simp only[aj,go_sem,hb]
       · simp only[go_sem,CZ]
theorem CW (a:ByteArray):a.toList=a.data.toList:=by
 have key:∀(n i:Nat) (r:List UInt8),a.size-i=n→ByteArray.toList.loop a i r=r.reverse++a.data.toList.drop i:=by
  intro n
  induction n with
  | zero =>
    intro i r h
    unfold ByteArray.toList.loop
    rw[if_neg (by omega),List.drop_eq_nil_of_le (by show a.data.toList.length≤i;have:a.data.toList.length=a.size:=rfl;omega)];simp
  | succ n ih =>
    intro i r h
    unfold ByteArray.toList.loop
    have hi:i<a.data.toList.length:=by show i<a.size;omega
    rw[if_pos (by omega),ih (i+1) _ (by omega),List.drop_eq_getElem_cons hi]
    have hi':i<a.data.size:=hi
    simp [ByteArray.get!,getElem!_pos a.data i hi']
 unfold ByteArray.toList
 rw[key a.size 0 [] (by omega)];simp
theorem zS (a b:ByteArray):bH .eql (.str a) (.str b)=some (.bool (a.data.toList==b.data.toList)):=by
 simp only[bH,lJ,CW]
theorem Bf (a b:ByteArray):bH .neq (.str a) (.str b)=some (.bool (!(a.data.toList==b.data.toList))):=by
 simp only[bH,lJ,CW]
theorem J5 (h:H) (n:Int):aV AP.A 9 [I n] h=some (I n,h):=by
 refine wX (fn:=AP.f9) (h2:=h.eY) (e:=[(2,I n)]) rfl rfl rfl ?_ rfl rfl
 simp only[I]at *
 simp only[AP.f9,go_sem]
theorem pP.set {h:H} {v:AV} {cs:List AV} (o:pP h v cs) {i:Nat} (hi:i<cs.length) (x:AV):∃id,v=.aI id 0 cs.length 1∧h.get id=some cs∧h.floor≤id∧pP (h.set id (cs.set i x)) v (cs.set i x):=by
 rcases o with ⟨rfl,rfl⟩|⟨id,rfl,h1,h2,h3⟩
 · simp at hi
 · exact⟨id,rfl,h1,h2,.inr ⟨id,by simp,by rw[H.eh,if_pos rfl,h1];rfl,by simpa using h2,by intro e;apply h3;have:=Q5 List.length e;simpa using this⟩⟩
structure Qy (a t:ByteArray):Prop where
 sz:a.size≤t.size
 bit:∀i,i<8* a.size→zo a i=zo t i
section
variable {a t:ByteArray} (h:Qy a t)
include h
end
variable {t:ByteArray} {most most':Int}
theorem Jj {s:ByteArray} {n:Nat} (hn:n≤s.size):pY (.str s) none (some (I n))=some (.str (s.extract 0 n)):=by
 have:mC (I n) s.size=some n:=FO hn
 simp [pY,aF,this]
theorem A6 (l:List Nat):(bytesOf l).size=l.length:=by
 show(l.map UInt8.ofNat).toArray.size=_
 simp
theorem Hp (h:H) (r:Nat) (s:ByteArray) (R:List AV) (p x i n:Nat) (hg:h.get r=some (.str s::I p::R)) (hf:h.floor≤r) (hp:p<8* s.size) (hs:s.size<1125899906842624) (hx:x<2^i) (hi:i<n) (hn:n≤16):
 aP (aV AP.A) bL AP.f46L0 [(0,.aH r 0),(1,I n),(6,I x),(7,I i)] h=some (.normal,[(0,.aH r 0),(1,I n),(6,I (x+zo s p* 2^i:Nat)),(7,I (i+1:Nat))],h.set r (.str s::I (p+1:Nat)::R)):=by
 obtain⟨b,hb⟩:=GD (s:=s) (i:=p/8) (by omega)
 have hb8:b.toNat<256:=b.toNat_lt
 have hbit:zo s p=b.toNat/2^(p%8)%2:=by simp [zo,hb]
 have t1:bH .quo (.int .i64 (p:Int)) (.int .i64 8)=some (.int .i64 ((p/8:Nat):Int)):=by
  rw[u9 _ _ _ (by omega),show(8:Int)=((8:Nat):Int)from rfl,zN,yJ (by omega)]
 have t2:bH .rem (.int .i64 (p:Int)) (.int .i64 8)=some (.int .i64 ((p%8:Nat):Int)):=by
  rw[ve _ _ _ (by omega),show(8:Int)=((8:Nat):Int)from rfl,A4]
 have a1:oD (.str s) (I (p/8:Nat))=some (.int .u8 b.toNat):=by
  simp only[oD,mI (show p/8<s.size by omega),xX,hb]
 have s1:rL .shr .u8 (b.toNat:Int) ((p%8:Nat):Int)=some (.int .u8 ((b.toNat/2^(p%8):Nat):Int)):=IH (by omega)
 have hlt:b.toNat/2^(p%8)<256:=Nat.lt_of_le_of_lt (Nat.div_le_self _ _) hb8
 have n1:bits .and .u8 ((b.toNat/2^(p%8):Nat):Int) 1=((zo s p:Nat):Int):=by
  have:=D6 (b:=1) hlt (by omega)
  rw[Nat.and_one_is_mod]at this
  rw[hbit];exact this
 have hbl:=Dc s p
 have w2:IntKind.wrap .i64 ((zo s p:Nat):Int)=((zo s p:Nat):Int):=yJ (by omega)
 have hpow:(2:Nat)^i≤2^16:=QO (by omega) (by omega)
 have hmul:zo s p* 2^i≤2^i:=by
  have:=yg (2^i) hbl;simpa using this
 have s2:rL .shl .i64 ((zo s p:Nat):Int) (i:Int)=some (.int .i64 ((zo s p* 2^i:Nat):Int)):=Ay (by omega) (by omega)
 have o1:bits .or .i64 (x:Int) ((zo s p* 2^i:Nat):Int)=((x+zo s p* 2^i:Nat):Int):=by
  rw[C3 (by omega) (by omega),It hx]
 have w3:IntKind.wrap .i64 ((p:Int)+1)=((p+1:Nat):Int):=yJ (n:=p+1) (by omega)
 have w4:IntKind.wrap .i64 ((i:Int)+1)=((i+1:Nat):Int):=yJ (n:=i+1) (by omega)
 have c1:(i:Int)<n:=by omega
 have hst:wZ h r 1 1 [I (p+1:Nat)] (some (.str s::I p::R))=some (h.set r (.str s::I (p+1:Nat)::R)):=xG hf (by simp) rfl
 generalize hB:zo s p=B at *
 generalize hD:b.toNat/2^(p%8)=D at *
 generalize hE:p/8=E at *
 generalize hF:p%8=F at *
 generalize hO:x+B* 2^i=O at *
 generalize hM:B* 2^i=W at *
 simp only[I]at *
 simp only[AP.f46L0,go_sem,QM c1,hg,t1,a1,t2,s1,n1,w2,s2,o1,w3,hst,w4]
theorem Ef (r:Nat) (s:ByteArray) (R:List AV) (p n:Nat) (hs:s.size<1125899906842624) (hp:p+n≤8* s.size) (hn:n≤16):∀(k i:Nat) (h:H),i+k=n→h.get r=some (.str s::I (p+i:Nat)::R)→h.floor≤r→
 ∃e',Lp AP.A [0,1,6,7] AP.f46L0 [(0,.aH r 0),(1,I n),(6,I (yN s p i:Nat)),(7,I i)] h=some (.exit 0,e',h.set r (.str s::I (p+n:Nat)::R))∧look e' 6=I (yN s p n:Nat)
 | 0, i, h, hk, hg, hf => by
   obtain rfl:i=n:=by omega
   refine⟨[(0,.aH r 0),(1,I i),(6,I (yN s p i:Nat)),(7,I i),(29,.bool false)],wh ?_,rfl⟩
   rw[H.kR hg]
   have c1:¬(i:Int)<i:=by omega
   simp only[I]at *
   simp only[AP.f46L0,go_sem,QL c1]
 | k + 1, i, h, hk, hg, hf => by
   have st:=Hp h r s R (p+i) (yN s p i) i n hg hf (by omega) hs (zg s p i) (by omega) hn
   obtain⟨e',k1,k2⟩:=Ef r s R p n hs hp hn k (i+1) (h.set r (.str s::I (p+i+1:Nat)::R)) (by omega) (by rw[H.eh,if_pos rfl,hg];rfl) (by simpa using hf)
   rw[H.set_set]at k1
   exact⟨e',wj st k1,k2⟩
theorem Jv (h:H) (r:Nat) (s:ByteArray) (R:List AV) (p n:Nat) (hg:h.get r=some (.str s::I p::R)) (hf:h.floor≤r) (hs:s.size<1125899906842624) (hp:p+n≤8* s.size) (hn:n≤16):
 aV AP.A 46 [.aH r 0,I n] h=some (.cf [I (yN s p n:Nat),I 0],h.set r (.str s::I (p+n:Nat)::R)):=by
 obtain⟨e',k1,k2⟩:=Ef r s R p n hs hp hn n 0 h (by omega) hg hf
 have k1':Lp AP.A [0,1,6,7] AP.f46L0 [(0,.aH r 0),(1,I n),(6,I 0),(7,I 0)] h=some (.exit 0,e',h.set r (.str s::I (p+n:Nat)::R)):=k1
 clear k1
 have c0:¬(n:Int)<0:=by omega
 have c1:¬(16:Int)<n:=by omega
 have w1:IntKind.wrap .i64 (8* (s.size:Int))=((8* s.size:Nat):Int):=yJ (n:=8* s.size) (by omega)
 have w2:IntKind.wrap .i64 (((8* s.size:Nat):Int)-p)=((8* s.size-p:Nat):Int):=by
  rw[←Int.ofNat_sub (by omega)];exact yJ (by omega)
 have c2:¬((8* s.size-p:Nat):Int)<n:=by omega
 refine wF (fn:=AP.f46) (e:=[(4,I (yN s p n:Nat)),(5,I 0)]) rfl rfl rfl ?_ rfl
 generalize hM:8* s.size-p=W at *
 generalize hM2:8* s.size=W2 at *
 simp only[I]at *
 simp only[AP.f46,go_sem,QL c0,QL c1,hg,w1,w2,QL c2,vp,k1',k2]
theorem HZ (h:H) (r:Nat) (s:ByteArray) (R:List AV) (p n:Nat) (hg:h.get r=some (.str s::I p::R)) (hs:s.size<1125899906842624) (hp0:p≤8* s.size) (hp:8* s.size<p+n) (hn:n≤16):
 aV AP.A 46 [.aH r 0,I n] h=some (.cf [I 0,I 101],h):=by
 have c0:¬(n:Int)<0:=by omega
 have c1:¬(16:Int)<n:=by omega
 have w1:IntKind.wrap .i64 (8* (s.size:Int))=((8* s.size:Nat):Int):=yJ (n:=8* s.size) (by omega)
 have w2:IntKind.wrap .i64 (((8* s.size:Nat):Int)-p)=((8* s.size-p:Nat):Int):=by
  rw[←Int.ofNat_sub (by omega)];exact yJ (by omega)
 have c2:((8* s.size-p:Nat):Int)<n:=by omega
 refine wF (fn:=AP.f46) (e:=[(4,I 0),(5,I 101)]) rfl rfl rfl ?_ rfl
 generalize hM:8* s.size-p=W at *
 generalize hM2:8* s.size=W2 at *
 simp only[I]at *
 simp only[AP.f46,go_sem,QL c0,QL c1,hg,w1,w2,QM c2]
structure FC where
 f:Nat
 text:ByteArray
 most:Int
structure Ft (c:FC) (S:SS) (h:H) (ov:AV):Prop where
 gf:h.get c.f=some [.str c.text,I S.at_,ov,I c.most,I S.e]
 own:pP h ov (DR S.out)
 ff:h.floor≤c.f
 of:ov.id?≠some c.f
 nx:h.floor≤h.next
 sz:c.text.size<1125899906842624
 zC:S.at_≤8* c.text.size
 ol:(S.out.length:Int)≤c.most
 ml:c.most≤900000
structure FF (c:FC) (h:H) (ov:AV) (h':H) (ov':AV):Prop where
 fl:h'.floor=h.floor
 nx:h.next≤h'.next
 CR:∀id,id<h.next→id≠c.f→ov.id?≠some id→h'.get id=h.get id
 nb:∀i,ov'.id?=some i→ov.id?=some i∨h.next≤i
theorem FF.refl (c:FC) (h:H) (ov:AV):FF c h ov h ov:=⟨rfl,ya _,fun _ _ _ _=>rfl,fun _ q=>.inl q⟩
theorem FF.trans {c:FC} {h1 h2 h3:H} {o1 o2 o3:AV} (a:FF c h1 o1 h2 o2) (b:FF c h2 o2 h3 o3):FF c h1 o1 h3 o3:=by
 refine⟨b.fl.trans a.fl,yF a.nx b.nx,fun id h4 h5 h7=> ?_,fun i hi=> ?_⟩
 · rw[b.CR id (Nat.lt_of_lt_of_le h4 a.nx) h5 (fun q=> ?_),a.CR id h4 h5 h7]
   rcases a.nb id q with q|q
   · exact h7 q
   · omega
 · rcases b.nb i hi with q|q
   · exact a.nb i q
   · exact .inr (yF a.nx q)
theorem Ft.EY {c:FC} {S:SS} {h:H} {ov:AV} (st:Ft c S h ov) {p:Nat} (hp:p≤8* c.text.size) (e:Int):Ft c ⟨p,S.out,e⟩ (h.set c.f [.str c.text,I p,ov,I c.most,I e]) ov∧FF c h ov (h.set c.f [.str c.text,I p,ov,I c.most,I e]) ov:=by
 refine⟨⟨by rw[H.eh,if_pos rfl,st.gf];rfl,st.own.mono (by simp) fun i hi=> ?_,by simpa using st.ff,st.of,by simpa using st.nx,st.sz,hp,st.ol,st.ml⟩,⟨by simp,by simp,fun id h1 h2 h4=>by rw[H.eh,if_neg h2],fun _ q=>.inl q⟩⟩
 rw[H.eh,if_neg];intro (e:i=c.f);exact st.of (e ▸ hi)
theorem Ft.AH {c:FC} {S:SS} {h h':H} {ov:AV} (st:Ft c S h ov) (hf:h'.floor=h.floor) (hn:h.next≤h'.next) (hg:∀i,i=c.f∨ov.id?=some i→h'.get i=h.get i):Ft c S h' ov:=
 ⟨by rw[hg _ (.inl rfl)];exact st.gf,st.own.mono hf fun i hi=>hg i (.inr hi),by rw[hf];exact st.ff,st.of,by rw[hf];exact yF st.nx hn,st.sz,st.zC,st.ol,st.ml⟩
theorem Ft.lt {c:FC} {S:SS} {h:H} {ov:AV} (st:Ft c S h ov) {i:Nat} (hi:i=c.f∨ov.id?=some i):i<h.next:=by
 rcases hi with rfl|hi
 · exact h.lt _ _ st.gf
 · exact st.own.lt hi
theorem Ft.alloc {c:FC} {S:SS} {h:H} {ov:AV} (st:Ft c S h ov) (cs:List AV):Ft c S (h.alloc cs) ov∧FF c h ov (h.alloc cs) ov:=by
 refine⟨st.AH (by simp) (by simp) fun i hi=> ?_,⟨by simp,by simp,fun id h1 _ _=> ?_,fun _ q=>.inl q⟩⟩
 · have:=st.lt hi;rw[H.bc,if_neg (by omega)]
 · rw[H.bc,if_neg (by omega)]
def yY (c:FC) (n:Nat) (S:SS):Nat×SS:=if S.at_+n≤8* c.text.size then(yN c.text S.at_ n,{S with at_:=S.at_+n})else(0,yQ 700 S)
theorem Jw (c:SC) (d:FC) (ht:c.text=d.text) (n:Nat) (S:SS):yP c n S=yY d n S:=by unfold yP yY;rw[ht]
theorem zU {c:FC} {S:SS} {h:H} {ov:AV} (st:Ft c S h ov) (n:Nat) (m:Int) (hm:m=n) (hn:n≤16):∃h',aV AP.A 18 [.aH c.f 0,I m] h=some (I ((yY c n S).1:Nat),h')∧Ft c (yY c n S).2 h' ov∧FF c h ov h' ov:=by
 subst hm
 have gf:=st.gf
 by_cases hp:S.at_+n≤8* c.text.size
 · have g:=Jv h c.f c.text _ S.at_ n st.gf st.ff st.sz hp hn
   refine⟨_, ?_,by rw[yY,if_pos hp];exact(st.EY hp S.e).1,(st.EY hp S.e).2⟩
   rw[yY,if_pos hp]
   have c0:((0:Int) !=0)=false:=rfl
   refine wF (fn:=AP.f18) (e:=[(4,I (yN c.text S.at_ n:Nat))]) rfl rfl rfl ?_ rfl
   simp only[I]at *
   simp only[AP.f18,go_sem,g,c0]
 · have g:=HZ h c.f c.text _ S.at_ n st.gf st.sz st.zC (by omega) hn
   have c0:((101:Int) !=0)=true:=rfl
   rw[yY,if_neg hp]
   by_cases he:S.e=0
   · have c1:=xc he
     have hst:wZ h c.f 4 1 [I 700] (some [.str c.text,I S.at_,ov,I c.most,I S.e])=some (h.set c.f [.str c.text,I S.at_,ov,I c.most,I 700]):=xG st.ff (by simp) rfl
     refine⟨_, ?_,by rw[yQ,if_pos he];exact(st.EY st.zC 700).1,(st.EY st.zC 700).2⟩
     refine wF (fn:=AP.f18) (e:=[(4,I 0)]) rfl rfl rfl ?_ rfl
     simp only[I]at *
     simp only[AP.f18,go_sem,g,c0,gf,c1,hst]
   · have c1:=xb he
     refine⟨h, ?_,by rw[yQ,if_neg he];exact st,FF.refl _ _ _⟩
     refine wF (fn:=AP.f18) (e:=[(4,I 0)]) rfl rfl rfl ?_ rfl
     simp only[I]at *
     simp only[AP.f18,go_sem,g,c0,gf,c1]
theorem Ae {c:FC} {S:SS} {h:H} {ov:AV} (st:Ft c S h ov):∃h',aV AP.A 25 [.aH c.f 0] h=some (.cf [],h')∧Ft c (yQ 700 S) h' ov∧FF c h ov h' ov:=by
 have gf:=st.gf
 by_cases he:S.e=0
 · have c1:=xc he
   have hst:wZ h c.f 4 1 [I 700] (some [.str c.text,I S.at_,ov,I c.most,I S.e])=some (h.set c.f [.str c.text,I S.at_,ov,I c.most,I 700]):=xG st.ff (by simp) rfl
   refine⟨_, ?_,by rw[yQ,if_pos he];exact(st.EY st.zC 700).1,(st.EY st.zC 700).2⟩
   refine zh (fn:=AP.f25) (e:=[]) rfl rfl rfl ?_ rfl
   simp only[I]at *
   simp only[AP.f25,go_sem,gf,c1,hst]
 · have c1:=xb he
   refine⟨h, ?_,by rw[yQ,if_neg he];exact st,FF.refl _ _ _⟩
   refine zh (fn:=AP.f25) (e:=[]) rfl rfl rfl ?_ rfl
   simp only[I]at *
   simp only[AP.f25,go_sem,gf,c1]
theorem HU {c:FC} {S:SS} {h:H} {ov:AV} (st:Ft c S h ov):∃h',aV AP.A 47 [.aH c.f 0] h=some (.cf [],h')∧Ft c {S with at_:=(S.at_+7)/8* 8} h' ov∧FF c h ov h' ov:=by
 have gf:=st.gf
 have hle:=st.zC
 have hsz:=st.sz
 have w2:IntKind.wrap .i64 ((S.at_:Int)+7)=((S.at_+7:Nat):Int):=yJ (n:=S.at_+7) (by omega)
 have w3:IntKind.wrap .i64 (((S.at_+7:Nat):Int).tdiv 8)=(((S.at_+7)/8:Nat):Int):=by
  rw[show(8:Int)=((8:Nat):Int)from rfl,zN];exact yJ (by omega)
 have w4:IntKind.wrap .i64 ((((S.at_+7)/8:Nat):Int)* 8)=(((S.at_+7)/8* 8:Nat):Int):=by
  rw[show(((S.at_+7)/8:Nat):Int)* 8=(((S.at_+7)/8* 8:Nat):Int)by omega];exact yJ (by omega)
 have q:bH .quo (.int .i64 ((S.at_+7:Nat):Int)) (.int .i64 8)=some (.int .i64 (((S.at_+7)/8:Nat):Int)):=by rw[u9 _ _ _ (by omega),w3]
 have hst:wZ h c.f 1 1 [I ((S.at_+7)/8* 8:Nat)] (some [.str c.text,I S.at_,ov,I c.most,I S.e])=some (h.set c.f [.str c.text,I ((S.at_+7)/8* 8:Nat),ov,I c.most,I S.e]):=xG st.ff (by simp) rfl
 have hp:(S.at_+7)/8* 8≤8* c.text.size:=by omega
 refine⟨_, ?_,(st.EY hp S.e).1,(st.EY hp S.e).2⟩
 refine zh (fn:=AP.f47) (e:=[]) rfl rfl rfl ?_ rfl
 generalize (S.at_+7)/8* 8=P8 at *
 generalize (S.at_+7)/8=P at *
 generalize S.at_+7=P7 at *
 simp only[I]at *
 simp only[AP.f47,go_sem,gf,w2,q,w4,hst]
theorem Gl {c : FC} {S : SS} {h : H} {ov : AV} (st : Ft c S h ov) (he : S.e = 0) (b : Nat) : ∃ h' ov' S', aV AP.A 48 [.aH c.f 0, .int .u8 b] h = some (.cf [], h') ∧ Ft c S' h' ov' ∧ FF c h ov h' ov' ∧ S' = if c.most ≤ S.out.length then { S with e := 701 } else ⟨S.at_, S.out ++ [b], 0⟩ := by
 have gf:=st.gf
 have hol:=st.ol
 have hml:=st.ml
 have ln:=st.own.len
 rw[zT]at ln
 have c1:=xc he
 by_cases hm:c.most≤S.out.length
 · rw[if_pos hm]
   have hst:wZ h c.f 4 1 [I 701] (some [.str c.text,I S.at_,ov,I c.most,I S.e])=some (h.set c.f [.str c.text,I S.at_,ov,I c.most,I 701]):=xG st.ff (by simp) rfl
   have s1:=st.EY st.zC 701
   have gf1:=s1.1.gf
   refine⟨_,ov,_, ?_,s1.1,s1.2,rfl⟩
   refine zh (fn:=AP.f48) (e:=[]) rfl rfl rfl ?_ rfl
   simp only[I]at *
   simp only[AP.f48,go_sem,gf,c1,ln,QM hm,hst,gf1]
 · rw [if_neg hm]
   have hfl:c.f<h.next:=h.lt _ _ st.gf
   obtain⟨h1,eh1⟩:∃g,g=h.alloc [.int .u8 b]:=⟨_,rfl⟩
   have hlo1:∀i,i≠h.next→h1.get i=h.get i:=fun i q=>by rw[eh1,H.bc,if_neg q]
   have hfl1:h1.floor=h.floor:=by rw[eh1];simp
   have hnx1:h1.next=h.next+1:=by rw[eh1];simp
   have ho1:pP h1 ov (DR S.out):=st.own.mono hfl1 fun i hi=>hlo1 i (by have:=st.own.lt hi;omega)
   have hnxf:=st.nx
   obtain⟨v',h2,q1,q2,q3,q4,q5,q6⟩:=ho1.app (by omega) (z:=1) (.int .u8 b) rfl (by simp [roomy];omega)
   have src:aW h1 1 (.aI h.next 0 1 1)=some (1,[.int .u8 b]):=by simp [aW,eh1,H.bc]
   have ap:mV h1 1 1 ov (.aI h.next 0 1 1)=some (v',h2):=by unfold mV;rw[src,xX];exact q1
   have gf1:h1.get c.f=some [.str c.text,I S.at_,ov,I c.most,I S.e]:=by rw[hlo1 _ (by omega)];exact st.gf
   have gf2:h2.get c.f=some [.str c.text,I S.at_,ov,I c.most,I S.e]:=by rw[q5 _ st.of (by omega)];exact gf1
   have ff2:h2.floor≤c.f:=by have:=st.ff;omega
   have hv':v'.cells=[v']∧v'.sc=true:=by
    rcases q2 with ⟨rfl,_⟩|⟨id,rfl,_⟩<;>exact⟨rfl,rfl⟩
   have hst:wZ h2 c.f 2 1 v'.cells (some [.str c.text,I S.at_,ov,I c.most,I S.e])=some (h2.set c.f [.str c.text,I S.at_,v',I c.most,I S.e]):=by rw[hv'.1];exact xG ff2 (by simp) hv'.2
   have hby:DR (S.out++[b])=DR S.out++[.int .u8 b]:=by simp [DR]
   have bt:∀e:Env,look e 34=.int .u8 b→bh e (.dw 1 1 [.int .u8 0] [(0,(.t 34))])=some ([.int .u8 b],fun i=>.aI i 0 1 1):=by
    intro e q;simp only[bh,QY,Q2,vt,q];rfl
   refine⟨h2.set c.f [.str c.text,I S.at_,v',I c.most,I S.e],v',_, ?_, ?_, ?_,rfl⟩
   · refine zh (fn:=AP.f48) (e:=[]) rfl rfl rfl ?_ rfl
     simp only[I]at *
     simp only[AP.f48,go_sem,gf,c1,ln,QL hm]
     rw[bt _ rfl]
     simp only[go_sem,←eh1,ap,gf2,hst]
   · refine⟨by rw[H.eh,if_pos rfl,gf2,he];rfl, ?_,by simpa using ff2, ?_,by simp;omega,st.sz,st.zC,by simp;omega,st.ml⟩
     · rw[hby]
       refine q2.mono (by simp) fun i hi=> ?_
       rw[q6]at hi;cases hi
       rw[H.eh,if_neg (by omega)]
     · rw[q6];intro e;have:=xO e;omega
   · refine⟨by simp;omega,by simp;omega,fun id a1 a2 a4=> ?_,fun i hi=> ?_⟩
     · rw[H.eh,if_neg a2,q5 id a4 (by omega),hlo1 id (by omega)]
     · rw[q6]at hi;cases hi;right;omega
def flat (l:List Int):Nat→List Int
 |0=>[]
 |n+1=>flat l n++syms l (n+1)
def Ix (l:List Int):Nat→AV:=fun i=>if i<16 then I (Am l i)else DJ (ints (flat l 15))
def yT (l:List Int):AV:=.aO (pQ 17 (Ix l)) 0
theorem Bp (l:List Int):∀n,(flat l n).length≤n* l.length
 |0=>by simp [flat]
 | n + 1 => by
   rw[flat,yH,yD,Nat.one_mul]
   have:=Bp l n
   have:=Bs l (n+1)
   omega
structure Nc (h0 h:H) (b:Nat) (D:Nat→AV) (k:Nat) (p S0:List Int):Prop where
 get:h.get b=some (pQ 17 D)
 fl:h.floor=h0.next
 fb:h0.next≤b
 nx:h.floor≤h.next
 low:∀id,id<h0.next→h.get id=h0.get id
 ck:D k=I (Am p k)
 own:pP h (D 16) (ints (S0++syms p k))
 nb:(D 16).id?≠some b
theorem EK (h0 : H) (b : Nat) (x : AV) (l : List Int) (hl : l.length < 1000) (hx : Rd h0 x (ints l)) (k : Nat) (hk1 : 1 ≤ k) (hk : k ≤ 15) (S0 : List Int) (hS0 : S0.length ≤ 15000) : ∀ (q p : List Int) (D : Nat → AV) (h : H), l = p ++ q → Nc h0 h b D k p S0 →
 ∃e' h' D',Lp AP.A [0,3,4,5] AP.f21L0 [(0,x),(3,.aH b 0),(4,I k),(5,I p.length)] h=some (.exit 2,e',h')∧look e' 0=x∧look e' 3=.aH b 0∧look e' 4=I k∧Nc h0 h' b D' k l S0∧∀i,i<16→i≠k→D' i=D i
 | [], p, D, h, hp, bo => by
   rw[QT]at hp;subst hp
   refine⟨[(0,x),(3,.aH b 0),(4,I k),(5,I l.length),(15,.bool false)],h,D,wh ?_,rfl,rfl,rfl,bo,fun _ _ _=>rfl⟩
   have ln:=hx.len
   rw[sD]at ln
   have c1:¬(l.length:Int)<(l.length:Int):=by omega
   simp only[I]at *
   simp only[AP.f21L0,go_sem,ln,QL c1]
 | y :: q, p, D, h, hp, bo => by
   have ln:=hx.len
   rw[sD]at ln
   have hlen:l.length=p.length+(q.length+1):=by rw[hp];simp
   have c1:(p.length:Int)<(l.length:Int):=by omega
   have hv:(ints l)[p.length]?=some (I y):=vP (by rw[hp];simp)
   obtain⟨ad,p1,p2⟩:=hx.elem hv
   have hlow:∀id c,h0.get id=some c→h.get id=some c:=fun id c q=>by rw[bo.low id (h0.lt id c q)];exact q
   have p3:=p2 h hlow
   have w1:IntKind.wrap .i64 ((p.length:Int)+1)=(((p++[y]).length:Nat):Int):=by
    rw[yH];exact yJ (n:=p.length+1) (by omega)
   have hcn:=B5 p y k
   have hsn:=CK p y k
   by_cases hy:y=(k:Int)
   · have cb := xc hy
     have hcl:=Bm p k
     rw[if_pos ⟨by omega,hy⟩]at hcn hsn
     have w2:IntKind.wrap .i64 ((Am p k:Int)+1)=((Am p k+1:Nat):Int):=yJ (n:=Am p k+1) (by omega)
     have a1:dH (I k) 16=some k:=mI (by omega)
     have g1:(pQ 17 D)[k]?=some (I (Am p k)):=by rw[ik (by omega),bo.ck]
     have hfb:h.floor≤b:=by rw[bo.fl];exact bo.fb
     obtain⟨D1,eD1⟩:∃E,E=w9 D k (I (Am p k+1:Nat)):=⟨_,rfl⟩
     have IY:wZ h b k 1 [I (Am p k+1:Nat)] (some (pQ 17 D))=some (h.set b (pQ 17 D1)):=by
      rw[xG hfb (by rw[uO];omega) rfl,wI (by omega),←eD1]
     obtain⟨h1,eh1⟩:∃g,g=h.set b (pQ 17 D1):=⟨_,rfl⟩
     have hbn:b<h.next:=h.lt _ _ bo.get
     have g2:h1.get b=some (pQ 17 D1):=by rw[eh1,H.eh,if_pos rfl,bo.get];rfl
     have d16:D1 16=D 16:=by rw[eD1,w9,if_neg (by omega)]
     have g3:(pQ 17 D1)[16]?=some (D 16):=by rw[ik (by omega),d16]
     obtain⟨h2,eh2⟩:∃g,g=h1.alloc [I p.length]:=⟨_,rfl⟩
     have hn1:h1.next=h.next:=by rw[eh1];simp
     have hlo2:∀i,i≠b→i≠h.next→h2.get i=h.get i:=fun i q1 q2=>by rw[eh2,H.bc,hn1,if_neg q2,eh1,H.eh,if_neg q1]
     have hfl2:h2.floor=h.floor:=by rw[eh2,eh1];simp
     have hnx2:h2.next=h.next+1:=by rw[eh2,eh1];simp
     have o2:pP h2 (D 16) (ints (S0++syms p k)):=bo.own.mono hfl2 fun i hi=>hlo2 i (fun e=>bo.nb (e ▸ hi)) (by have:=bo.own.lt hi;omega)
     have hsl:=Bs p k
     have hnxf:=bo.nx
     obtain⟨v',h3,q1,q2,q3,q4,q5,q6⟩:=o2.app (by omega) (z:=8) (I p.length) rfl (by simp [roomy];omega)
     have src:aW h2 1 (.aI h1.next 0 1 1)=some (1,[I p.length]):=by simp [aW,eh2,H.bc]
     have ap:mV h2 1 8 (D 16) (.aI h1.next 0 1 1)=some (v',h3):=by unfold mV;rw[src,xX];exact q1
     have g4:h3.get b=some (pQ 17 D1):=by
      rw[q5 b bo.nb (by omega),eh2,H.bc,if_neg (by omega)];exact g2
     have hv':v'.cells=[v']∧v'.sc=true:=by
      rcases q2 with ⟨rfl,_⟩|⟨id,rfl,_⟩<;>exact⟨rfl,rfl⟩
     obtain⟨D2,eD2⟩:∃E,E=w9 D1 16 v':=⟨_,rfl⟩
     have hfb3:h3.floor≤b:=by rw[q3,hfl2];exact hfb
     have st2:wZ h3 b 16 1 v'.cells (some (pQ 17 D1))=some (h3.set b (pQ 17 D2)):=by
      rw[hv'.1,xG hfb3 (by rw[uO];omega) hv'.2,wI (by omega),←eD2]
     have bt:∀e:Env,look e 39=.int .i64 p.length→bh e (.dw 1 1 [.int .i64 0] [(0,.t 39)])=some ([.int .i64 p.length],fun i=>.aI i 0 1 1):=by
      intro e q;simp only[bh,QY,Q2,vt,q];rfl
     have step:aP (aV AP.A) bL AP.f21L0 (aC [(0,x),(3,.aH b 0),(4,I k),(5,I p.length)] [0,3,4,5]) h=some (.normal,[(0,x),(3,.aH b 0),(4,I k),(5,I (p++[y]).length)],h3.set b (pQ 17 D2)):=by
      have gb:=bo.get
      generalize pQ 17 D=T0 at *
      generalize pQ 17 D1=T1 at *
      generalize pQ 17 D2=T2 at *
      generalize (p++[y]).length=B at *
      generalize D 16=dv at *
      simp only[I]at *
      simp only[AP.f21L0,go_sem,ln,QM c1,p1,p3,cb,a1,gb,g1,w2,IY,←eh1,g2,g3]
      rw[bt _ rfl]
      simp only[go_sem,←eh2,ap,g4,st2,w1]
     have bo2:Nc h0 (h3.set b (pQ 17 D2)) b D2 k (p++[y]) S0:=by
      refine⟨by rw[H.eh,if_pos rfl,g4];rfl,by simp [q3,hfl2,bo.fl],bo.fb,by simp;omega,fun id hid=> ?_, ?_, ?_, ?_⟩
      · have hd:id≠b:=by have:=bo.fb;omega
        rw[H.eh,if_neg hd]
        have hidn:id<h.next:=by have:=bo.fb;omega
        by_cases hq:(D 16).id?=some id
        · exfalso
          have hfloor:h.floor≤id:=by
           rcases bo.own with ⟨e,_⟩|⟨j,e,_,hj,_⟩
           · rw[e]at hq;cases hq
           · rw[e]at hq;obtain rfl:=xO hq;exact hj
          rw[bo.fl]at hfloor;omega
        · rw[q5 id hq (by omega),hlo2 id hd (by omega),bo.low id hid]
      · rw[eD2,w9,if_neg (by omega),eD1,w9,if_pos rfl,hcn]
      · rw[eD2,w9,if_pos rfl]
        have:ints (S0++syms (p++[y]) k)=ints (S0++syms p k)++[I p.length]:=by rw[hsn,←List.append_assoc,su];rfl
        rw[this]
        refine q2.mono (by simp) fun i hi=> ?_
        rw[q6]at hi;cases hi
        rw[H.eh,if_neg (by omega)]
      · rw[eD2,w9,if_pos rfl,q6];intro e;have:=xO e;omega
     obtain⟨e',h',D',r1,r2,r3,r4,r5,r6⟩:=EK h0 b x l hl hx k hk1 hk S0 hS0 q (p++[y]) D2 _ (by rw[hp];simp) bo2
     exact⟨e',h',D',wj step r1,r2,r3,r4,r5,fun i h1 h2=>by rw[r6 i h1 h2,eD2,w9,if_neg (by omega),eD1,w9,if_neg h2]⟩
   · have cb:=xb hy
     rw[if_neg (fun q=>hy q.2),Nat.add_zero]at hcn
     rw[if_neg (fun q=>hy q.2),QT]at hsn
     have step:aP (aV AP.A) bL AP.f21L0 (aC [(0,x),(3,.aH b 0),(4,I k),(5,I p.length)] [0,3,4,5]) h=some (.normal,[(0,x),(3,.aH b 0),(4,I k),(5,I (p++[y]).length)],h):=by
      generalize (p++[y]).length=B at *
      simp only[I]at *
      simp only[AP.f21L0,go_sem,ln,QM c1,p1,p3,cb,w1]
     have bo2:Nc h0 h b D k (p++[y]) S0:=⟨bo.get,bo.fl,bo.fb,bo.nx,bo.low,by rw[hcn];exact bo.ck,by rw[hsn];exact bo.own,bo.nb⟩
     obtain⟨e',h',D',r1,r2,r3,r4,r5,r6⟩:=EK h0 b x l hl hx k hk1 hk S0 hS0 q (p++[y]) D _ (by rw[hp];simp) bo2
     exact⟨e',h',D',wj step r1,r2,r3,r4,r5,r6⟩
theorem Jo (n:Nat):Am [] n=0:=by unfold Am;split<;>rfl
theorem I7 (n:Nat):syms [] n=[]:=by unfold syms;split<;>rfl
theorem Fe (h0 : H) (b : Nat) (x : AV) (l : List Int) (hl : l.length < 1000) (hx : Rd h0 x (ints l)) : ∀ (m k : Nat) (D : Nat → AV) (h : H), k + m = 16 → 1 ≤ k →
 h.get b=some (pQ 17 D)→h.floor=h0.next→h0.next≤b→h.floor≤h.next→(∀id,id<h0.next→h.get id=h0.get id)→(∀i,i<k→D i=I (Am l i))→(∀i,k≤i→i<16→D i=I 0)→pP h (D 16) (ints (flat l (k-1)))→(D 16).id?≠some b→
 ∃e' h' D',Lp AP.A [0,3,4] AP.f21L1 [(0,x),(3,.aH b 0),(4,I k)] h=some (.exit 0,e',h')∧look e' 3=.aH b 0∧h'.get b=some (pQ 17 D')∧h'.floor=h0.next∧(∀i,i<16→D' i=I (Am l i))∧pP h' (D' 16) (ints (flat l 15))
 | 0, k, D, h, hk, hk1, hg, hf, hfb, hnx, hlow, hc, hz, ho, hnb => by
   obtain rfl:k=16:=by omega
   refine⟨[(0,x),(3,.aH b 0),(4,I 16),(9,.bool false)],h,D,wh ?_,rfl,hg,hf,hc,ho⟩
   have c1:¬(((16:Nat):Int)≤15):=by omega
   simp only[I]at *
   simp only[AP.f21L1,go_sem,QL c1]
   rfl
 | m + 1, k, D, h, hk, hk1, hg, hf, hfb, hnx, hlow, hc, hz, ho, hnb => by
   have c1:(k:Int)≤15:=by omega
   have hfl:=Bp l (k-1)
   have hS0:(flat l (k-1)).length≤15000:=by
    have:(k-1)* l.length≤15* 1000:=Nat.mul_le_mul (by omega) (by omega)
    omega
   have bo:Nc h0 h b D k [] (flat l (k-1)):=⟨hg,hf,hfb,hnx,hlow,by rw[Jo,hz k (ya _) (by omega)];rfl,by rw[I7,QT];exact ho,hnb⟩
   obtain⟨e1,h1,D1,r1,r2,r3,r4,r5,r6⟩:=EK h0 b x l hl hx k hk1 (by omega) _ hS0 l [] D h rfl bo
   have r1':Lp AP.A [0,3,4,5] AP.f21L0 [(0,x),(3,.aH b 0),(4,I k),(5,I 0)] h=some (.exit 2,e1,h1):=r1
   clear r1
   have w1:IntKind.wrap .i64 ((k:Int)+1)=((k+1:Nat):Int):=yJ (n:=k+1) (by omega)
   have step:aP (aV AP.A) bL AP.f21L1 (aC [(0,x),(3,.aH b 0),(4,I k)] [0,3,4]) h=some (.normal,[(0,x),(3,.aH b 0),(4,I (k+1:Nat))],h1):=by
    simp only[I]at *
    simp only[AP.f21L1,go_sem,QM c1,vp,r1',r2,r3,r4,w1]
   have hfk:flat l (k+1-1)=flat l (k-1)++syms l k:=by
    obtain⟨j,rfl⟩:∃j,k=j+1:=⟨k-1,by omega⟩
    rfl
   obtain⟨e',h',D',q1,q2,q3,q4,q5,q6⟩:=Fe h0 b x l hl hx m (k+1) D1 h1 (by omega) (by omega) r5.get r5.fl r5.fb r5.nx r5.low
    (fun i hi=>by
      by_cases e:i=k
      · subst e;exact r5.ck
      · rw[r6 i (by omega) e];exact hc i (by omega))
    (fun i h1 h2=>by rw[r6 i h2 (by omega)];exact hz i (by omega) h2) (by rw[hfk];exact r5.own) r5.nb
   exact⟨e',h',D',wj step q1,q2,q3,q4,q5,q6⟩
def P0:Nat→AV:=fun i=>if i<16 then I 0 else .aT
theorem Bj (h : H) (x : AV) (l : List Int) (hl : l.length < 1000) (hx : Rd h x (ints l)) : aV AP.A 21 [x] h = some (yT l, h) := by
 obtain⟨h1,eh1⟩:∃g,g=h.eY.alloc (pQ 17 P0):=⟨_,rfl⟩
 have hg1:h1.get h.next=some (pQ 17 P0):=by rw[eh1,H.bc,if_pos (show h.next=h.eY.next from rfl)]
 obtain⟨e',h2,D,q1,q2,q3,q4,q5,q6⟩:=Fe h h.next x l hl hx 15 1 P0 h1 rfl (by omega) hg1 (by rw[eh1];simp) (ya _) (by rw[eh1];simp)
  (fun id hid=>by rw[eh1,H.bc,if_neg (by show id≠h.next;omega)];rfl)
  (fun i hi => by obtain rfl : i = 0 := by omega
                  rfl)
  (fun i h1 h2=>by simp only[P0,if_pos h2]) (.inl ⟨rfl,rfl⟩) (by intro e;cases e)
 have q1':Lp AP.A [0,3,4] AP.f21L1 [(0,x),(3,.aH h.next 0),(4,I 1)] h1=some (.exit 0,e',h2):=q1
 clear q1
 refine wX (fn:=AP.f21) (h2:=h2) (e:=[(2,.aH h.next 0)]) (vs:=[.aH h.next 0]) rfl rfl rfl ?_ rfl ?_
 · unfold AP.f21
   refine xD (e1:=[(0,x)]) (h1:=h.eY) rfl ?_
   refine xD (e1:=[(0,x),(3,.aH h.next 0)]) (h1:=h1) (by rw[eh1];rfl) ?_
   simp only[I]at *
   simp only[go_sem,vp,q1',q2]
 · show snap h2.get h.next 16 true (.aH h.next 0)=_
   have hm:gX (snap h2.get h.next 15 false) (pQ 17 D)=some (pQ 17 (Ix l)):=by
    refine GN 17 fun i hi=> ?_
    by_cases c1:i<16
    · rw[q5 i c1,Ix,if_pos c1];rfl
    · obtain rfl:i=16:=by omega
      rw[Ix,if_neg (by omega)]
      exact FP (n:=13) q6 (by rw[q4];exact ya _) (zJ _ _ _ _ _)
   simp only[snap,if_neg (Nat.lt_irrefl _),q3,xX,hm,yT]
theorem Fp (l : List Int) {n i : Nat} (hi : i < (syms l (n + 1)).length) : ∀ m, n + 1 ≤ m → (flat l m)[(flat l n).length + i]? = (syms l (n + 1))[i]?
 |0,h=>by omega
 | m + 1, h => by
   rw[flat]
   by_cases e:n=m
   · subst e
     rw[List.getElem?_append_right (by omega),Nat.add_sub_cancel_left]
   · have ih:=Fp l hi m (by omega)
     have hlt:(flat l n).length+i<(flat l m).length:=by
      have:((syms l (n+1))[i]?).isSome=true:=by rw[Q1 hi];rfl
      rw[←ih]at this
      obtain⟨x,hx⟩:=Option.isSome_iff_exists.1 this
      exact(xW.1 hx).1
     rw[List.getElem?_append_left hlt];exact ih
theorem Ho {c:FC} {S:SS} {h:H} {ov:AV} (st:Ft c S h ov) (b:AV) (v f a n:Int) (hs:n=16∨(n≤15∧S.e≠0)):
 ∃e',Lp AP.A [0,1,5,6,7,8] AP.f49L0 [(0,.aH c.f 0),(1,b),(5,I v),(6,I f),(7,I a),(8,I n)] h=some (.exit 0,e',h)∧look e' 0=.aH c.f 0:=by
 have gf:=st.gf
 refine⟨[(0,.aH c.f 0),(1,b),(5,I v),(6,I f),(7,I a),(8,I n),(17,.bool false)],wh ?_,rfl⟩
 rcases hs with hn|⟨hn,he⟩
 · have c1:¬n≤15:=by omega
   simp only[I]at *
   simp only[AP.f49L0,go_sem,QL c1]
 · have c2:(S.e==0)=false:=xb he
   simp only[I]at *
   simp only[AP.f49L0,go_sem,QM hn,gf,c2]
theorem JK {v x:Nat} (hx:x<2):(v* 2|||x)=v* 2+x:=by
 have:=Nat.two_pow_add_eq_or_of_lt (i:=1) (show x<2^1 by omega) v
 rw[Nat.mul_comm v 2]
 simpa using this.symm
theorem Ee {c : FC} (l : List Int) (hl : l.length < 1000) : ∀ (k n v : Nat) (S : SS) (h : H) (ov : AV), n + 1 + k = 16 → v < 2 ^ n → yU l (n + 1) ≤ (v * 2 : Nat) → Ft c S h ov → S.e = 0 →
 ∃ h' S', Ft c S' h' ov ∧ FF c h ov h' ov ∧ match Ai c.text l k (n + 1) v S.at_ with
   |some (y,p)=>S'={S with at_:=p}∧∃e',Lp AP.A [0,1,5,6,7,8] AP.f49L0 [(0,.aH c.f 0),(1,yT l),(5,I (v* 2:Nat)),(6,I (yU l (n+1))),(7,I (flat l n).length),(8,I (n+1:Nat))] h=some (.ret,e',h')∧look e' 4=I y
   |none=>(S'.e=0∧∃e',Lp AP.A [0,1,5,6,7,8] AP.f49L0 [(0,.aH c.f 0),(1,yT l),(5,I (v* 2:Nat)),(6,I (yU l (n+1))),(7,I (flat l n).length),(8,I (n+1:Nat))] h=some (.exit 0,e',h')∧look e' 0=.aH c.f 0)∨
    (S'.e=700∧∃e',Lp AP.A [0,1,5,6,7,8] AP.f49L0 [(0,.aH c.f 0),(1,yT l),(5,I (v* 2:Nat)),(6,I (yU l (n+1))),(7,I (flat l n).length),(8,I (n+1:Nat))] h=some (.ret,e',h')∧look e' 4=I (-1))
 | 0, n, v, S, h, ov, hk, hv, hf, st, he => by
   obtain⟨e',q1,q2⟩:=Ho st (yT l) (v* 2:Nat) (yU l (n+1)) (flat l n).length (n+1:Nat) (.inl (by omega))
   exact⟨h,S,st,FF.refl _ _ _,by simp only[Ai];exact .inl ⟨he,e',q1,q2⟩⟩
 | k + 1, n, v, S, h, ov, hk, hv, hf, st, he => by
   have gf:=st.gf
   obtain⟨h1,k1,k2,k3⟩:=zU st 1 1 rfl (by omega)
   have c1:((n+1:Nat):Int)≤15:=by omega
   have hp:2^n≤2^14:=QO (by omega) (by omega)
   by_cases hat:S.at_+1≤8* c.text.size
   · have eg:yY c 1 S=(yN c.text S.at_ 1,{S with at_:=S.at_+1}):=by rw[yY,if_pos hat]
     rw[eg]at k1 k2
     dsimp only at k1 k2
     have gf1:=k2.gf
     dsimp only at gf1
     rw[Ai,if_pos hat]
     obtain⟨x,hx⟩:∃x,x=yN c.text S.at_ 1:=⟨_,rfl⟩
     have hx2:x<2:=by rw[hx];simpa using zg c.text S.at_ 1
     rw[←hx]at k1 ⊢
     have o1:bits .or .i64 ((v* 2:Nat):Int) (x:Int)=((v* 2+x:Nat):Int):=by rw[C3 (by omega) (by omega),JK hx2]
     have ce:(S.e !=0)=false:=xe he
     have hcl:=Bm l (n+1)
     have hfb:=Cu (show l.length<100000 by omega) (n+1)
     have hp2:=CA (show n+1≤15 by omega)
     have a1:dH (I (n+1:Nat)) 16=some (n+1):=mI (by omega)
     have g1:(pQ 17 (Ix l))[n+1]?=some (I (Am l (n+1))):=by rw[ik (by omega),Ix,if_pos (by omega)]
     have g2:(pQ 17 (Ix l))[16]?=some (DJ (ints (flat l 15))):=by rw[ik (by omega),Ix,if_neg (by omega)]
     have w1:IntKind.wrap .i64 (((v* 2+x:Nat):Int)-(Am l (n+1):Int))=((v* 2+x:Nat):Int)-(Am l (n+1):Int):=wJ (by omega) (by omega)
     have hsc:=FV l (n+1)
     have hfll:=Bp l n
     have hfln:n* l.length≤15* 1000:=Nat.mul_le_mul (by omega) (by omega)
     have hrb:yT l=.aO (pQ 17 (Ix l)) 0:=rfl
     have hf2:yU l (n+1+1)=(yU l (n+1)+Am l (n+1))* 2:=rfl
     by_cases hlt:((v* 2+x:Nat):Int)-(Am l (n+1):Int)<yU l (n+1)
     ·
      obtain⟨i,hi⟩:∃i:Nat,((v* 2+x:Nat):Int)-yU l (n+1)=i:=QQ (by omega)
      have hil:i<(syms l (n+1)).length:=by omega
      obtain⟨y,hy⟩:∃y,(syms l (n+1))[i]?=some y:=⟨_,Q1 hil⟩
      have hfd:Ap l (n+1) ((v* 2+x:Nat):Int)=some y:=by rw[Ap,if_pos (by omega),hi,Q0,hy]
      rw[hfd]
      have hflat:=Fp l hil 15 (by omega)
      rw[hy]at hflat
      have hfl15:(flat l n).length+i<(flat l 15).length:=(xW.1 hflat).1
      have hne:ints (flat l 15)≠[]:=by intro e;have:=Q5 List.length e;simp at this;simp [this]at hfl15
      have hs:DJ (ints (flat l 15))=.aZ false (ints (flat l 15)) 0 (ints (flat l 15)).length 1:=by rw[DJ,if_neg hne]
      rw[hs]at g2
      have w2:IntKind.wrap .i64 (((flat l n).length:Int)+((v* 2+x:Nat):Int))=(((flat l n).length+(v* 2+x):Nat):Int):=by
       rw[show((flat l n).length:Int)+((v* 2+x:Nat):Int)=(((flat l n).length+(v* 2+x):Nat):Int)by omega];exact yJ (by omega)
      have w3:IntKind.wrap .i64 ((((flat l n).length+(v* 2+x):Nat):Int)-yU l (n+1))=(((flat l n).length+i:Nat):Int):=by
       rw[show(((flat l n).length+(v* 2+x):Nat):Int)-yU l (n+1)=(((flat l n).length+i:Nat):Int)by omega];exact yJ (by omega)
      have a2:iy 1 (.aZ false (ints (flat l 15)) 0 (ints (flat l 15)).length 1) (I ((flat l n).length+i:Nat))=some (.aO (ints (flat l 15)) ((flat l n).length+i)):=by
       have:=mI (show(flat l n).length+i<(ints (flat l 15)).length by rw[sD];exact hfl15)
       simp only[iy,if_true,this,xX,ym,Q3]
      have g3:=vP hflat
      refine⟨h1,_,k2,k3,rfl,[(4,I y)],wM ?_,rfl⟩
      rw[hrb]
      clear hrb hs hne hflat hy hfd hf2
      generalize pQ 17 (Ix l)=T at *
      generalize ints (flat l 15)=FS at *
      generalize (flat l n).length=FL at *
      generalize yU l (n+1)=FC1 at *
      generalize FL+(v* 2+x)=VV at *
      generalize FL+i=VI2 at *
      generalize v* 2+x=VX at *
      generalize v* 2=V2 at *
      simp only[I]at *
      simp only[AP.f49L0,go_sem,QM c1,gf,he,k1,o1,gf1,ce,a1,g1,w1,QM hlt,g2,w2,w3,a2,g3]
     · have hfd:Ap l (n+1) ((v* 2+x:Nat):Int)=none:=by rw[Ap,if_pos (by omega),List.getElem?_eq_none (by omega)]
       rw[hfd]
       have w2:IntKind.wrap .i64 (((flat l n).length:Int)+(Am l (n+1):Int))=((flat l (n+1)).length:Int):=by
        rw[show((flat l n).length:Int)+(Am l (n+1):Int)=((flat l (n+1)).length:Int)by rw[flat,yH,hsc];omega]
        refine yJ ?_
        rw[flat,yH,hsc];omega
       have w3:IntKind.wrap .i64 (yU l (n+1)+(Am l (n+1):Int))=yU l (n+1)+(Am l (n+1):Int):=wJ (by omega) (by omega)
       have s1:rL .shl .i64 (yU l (n+1)+(Am l (n+1):Int)) 1=some (.int .i64 (yU l (n+1+1))):=by
        obtain⟨z,hz⟩:∃z:Nat,yU l (n+1)+(Am l (n+1):Int)=z:=QQ (by omega)
        have:=Ay (a:=z) (s:=1) (by omega) (by omega)
        rw[hf2,hz]
        rw[show((1:Nat):Int)=1 from rfl]at this
        rw[this];simp
       have s2:rL .shl .i64 ((v* 2+x:Nat):Int) 1=some (.int .i64 (((v* 2+x)* 2:Nat):Int)):=by
        have:=Ay (a:=v* 2+x) (s:=1) (by omega) (by omega)
        exact this
       have w4:IntKind.wrap .i64 (((n+1:Nat):Int)+1)=((n+1+1:Nat):Int):=yJ (n:=n+1+1) (by omega)
       have step:aP (aV AP.A) bL AP.f49L0 (aC [(0,.aH c.f 0),(1,yT l),(5,I (v* 2:Nat)),(6,I (yU l (n+1))),(7,I (flat l n).length),(8,I (n+1:Nat))] [0,1,5,6,7,8]) h=some (.normal,[(0,.aH c.f 0),(1,yT l),(5,I ((v* 2+x)* 2:Nat)),(6,I (yU l (n+1+1))),(7,I (flat l (n+1)).length),(8,I (n+1+1:Nat))],h1):=by
        rw[hrb]
        clear hrb hfd
        generalize pQ 17 (Ix l)=T at *
        generalize (flat l n).length=FL at *
        generalize (flat l (n+1)).length=FL1 at *
        generalize yU l (n+1)=FC1 at *
        generalize yU l (n+1+1)=FC2 at *
        generalize (v* 2+x)* 2=VV at *
        generalize v* 2+x=VX at *
        generalize v* 2=V2 at *
        rw[he]at gf gf1
        simp only[I]at *
        simp only[AP.f49L0,go_sem,QM c1,gf,k1,o1,gf1,a1,g1,w1,QL hlt,w2,w3,s1,s2,w4]
       have hv2:v* 2+x<2^(n+1):=by rw[Nat.pow_succ];omega
       obtain⟨h',S',q1,q2,q3⟩:=Ee l hl k (n+1) (v* 2+x) _ h1 ov (by omega) hv2 (by rw[hf2];omega) k2 he
       refine⟨h',S',q1,k3.trans q2, ?_⟩
       dsimp only at q3 ⊢
       cases hy:Ai c.text l k (n+1+1) (v* 2+x) (S.at_+1)with
       | none =>
         rw[hy]at q3
         rcases q3 with ⟨q3,e',q4,q5⟩|⟨q3,e',q4,q5⟩
         · exact .inl ⟨q3,e',wj step q4,q5⟩
         · exact .inr ⟨q3,e',wj step q4,q5⟩
       | some yp =>
         rw[hy]at q3
         obtain⟨q3,e',q4,q5⟩:=q3
         exact⟨q3,e',wj step q4,q5⟩
   · have eg:yY c 1 S=(0,{S with e:=700}):=by rw[yY,if_neg hat,yQ,if_pos he]
     rw[eg]at k1 k2
     dsimp only at k1 k2
     have gf1:=k2.gf
     dsimp only at gf1
     rw[Ai,if_neg hat]
     have o1:bits .or .i64 ((v* 2:Nat):Int) ((0:Nat):Int)=((v* 2:Nat):Int):=by rw[C3 (by omega) (by omega)];simp
     refine⟨h1,_,k2,k3,.inr ⟨rfl,[(4,I (-1))],wM ?_,rfl⟩⟩
     rw[he]at gf
     generalize v* 2=V2 at *
     simp only[I]at *
     simp only[AP.f49L0,go_sem,QM c1,gf,k1,o1,gf1]
theorem Cv {c:FC} {S:SS} {h:H} {ov:AV} (l:List Int) (hl:l.length<1000) (st:Ft c S h ov) (he:S.e=0):
 ∃ h' S' y, aV AP.A 49 [.aH c.f 0, yT l] h = some (I y, h') ∧ Ft c S' h' ov ∧ FF c h ov h' ov ∧ match Ai c.text l 15 1 0 S.at_ with
   |some (z,p)=>S'={S with at_:=p}∧y=z
   |none=>S'.e=700∧y= -1:=by
 obtain⟨h1,S1,q1,q2,q3⟩:=Ee l hl 15 0 0 S h ov (by omega) (by simp) (by simp [yU,Am]) st he
 have conv:∀r,Lp AP.A [0,1,5,6,7,8] AP.f49L0 [(0,.aH c.f 0),(1,yT l),(5,I (0* 2:Nat)),(6,I (yU l (0+1))),(7,I (flat l 0).length),(8,I (0+1:Nat))] h=r→Lp AP.A [0,1,5,6,7,8] AP.f49L0 [(0,.aH c.f 0),(1,yT l),(5,I 0),(6,I 0),(7,I 0),(8,I 1)] h=r:=by
  intro r hr
  have h1:yU l (0+1)=0:=by simp [yU,Am]
  rw[h1]at hr
  exact hr
 cases hy:Ai c.text l 15 1 0 S.at_ with
 | some yp =>
   have hy':Ai c.text l 15 (0+1) 0 S.at_=some yp:=hy
   rw[hy']at q3
   obtain⟨q3,e',q4,q5⟩:=q3
   refine⟨h1,S1,yp.1, ?_,q1,q2,q3,rfl⟩
   have q6:=conv _ q4
   clear q4
   refine wF (fn:=AP.f49) (e:=e') (vs:=[I yp.1]) rfl rfl rfl ?_ (by simp only[AP.f49,di,pG,q5];rfl)
   simp only[I]at *
   simp only[AP.f49,go_sem,vp,q6]
 | none =>
   have hy':Ai c.text l 15 (0+1) 0 S.at_=none:=hy
   rw[hy']at q3
   rcases q3 with ⟨q3,e',q4,q5⟩|⟨q3,e',q4,q5⟩
   · have q6:=conv _ q4
     clear q4
     obtain⟨h2,r1,r2,r3⟩:=Ae q1
     refine⟨h2,yQ 700 S1,-1, ?_,r2,q2.trans r3,by simp [yQ,q3],rfl⟩
     refine wF (fn:=AP.f49) (e:=[(4,I (-1))]) rfl rfl rfl ?_ rfl
     simp only[I]at *
     simp only[AP.f49,go_sem,vp,q6,q5,r1]
   · have q6:=conv _ q4
     clear q4
     refine⟨h1,S1,-1, ?_,q1,q2,q3,rfl⟩
     refine wF (fn:=AP.f49) (e:=e') (vs:=[I (-1)]) rfl rfl rfl ?_ (by simp only[AP.f49,di,pG,q5];rfl)
     simp only[I]at *
     simp only[AP.f49,go_sem,vp,q6]
theorem Il (h:H) (y:Nat) (hy:y<1000000):aV AP.A 50 [I y] h=some (Bw (lenOf y),h):=by
 by_cases c1:y≤256
 · rw[lenOf,if_pos (.inl c1)]
   refine wX (fn:=AP.f50) (h2:=h.eY) (e:=[(2,I 0),(3,I 0),(4,I 600)]) rfl rfl rfl ?_ rfl rfl
   have c1':(y:Int)<257:=by omega
   simp only[I]at *
   simp only[AP.f50,go_sem,QM c1']
 have c1':¬(y:Int)<257:=by omega
 by_cases c2:285<y
 · rw[lenOf,if_pos (.inr c2)]
   refine wX (fn:=AP.f50) (h2:=h.eY) (e:=[(2,I 0),(3,I 0),(4,I 600)]) rfl rfl rfl ?_ rfl rfl
   have c2':(285:Int)<y:=by omega
   simp only[I]at *
   simp only[AP.f50,go_sem,QL c1',QM c2']
 have c2':¬(285:Int)<y:=by omega
 rw[lenOf,if_neg (by omega)]
 by_cases c3:y=285
 · rw[if_pos c3]
   refine wX (fn:=AP.f50) (h2:=h.eY) (e:=[(2,I 258),(3,I 0),(4,I 0)]) rfl rfl rfl ?_ rfl rfl
   have c3':((y:Int)==285)=true:=xc (by omega)
   simp only[I]at *
   simp only[AP.f50,go_sem,QL c1',QL c2',c3']
 rw[if_neg c3]
 have c3':((y:Int)==285)=false:=xb (by omega)
 by_cases c4:y<265
 · rw[if_pos c4]
   refine wX (fn:=AP.f50) (h2:=h.eY) (e:=[(2,I (y-254:Nat)),(3,I 0),(4,I 0)]) rfl rfl rfl ?_ rfl rfl
   have c4':(y:Int)<265:=by omega
   have w3:IntKind.wrap .i64 ((y:Int)-254)=((y-254:Nat):Int):=by rw[show(y:Int)-254=((y-254:Nat):Int)by omega];exact yJ (by omega)
   simp only[I]at *
   simp only[AP.f50,go_sem,QL c1',QL c2',c3',QM c4',w3]
 rw[if_neg c4]
 have c4':¬(y:Int)<265:=by omega
 obtain⟨k,hk⟩:∃k:Nat,y-261=k:=⟨_,rfl⟩
 have w1:IntKind.wrap .i64 ((y:Int)-261)=(k:Int):=by rw[show(y:Int)-261=(k:Int)by omega];exact yJ (by omega)
 rw[show(y-257)/4-1=k/4-0 by omega,Nat.sub_zero,show(y-257)%4=k%4 by omega]
 have q1:bH .quo (.int .i64 (k:Int)) (.int .i64 4)=some (.int .i64 ((k/4:Nat):Int)):=by
  rw[u9 _ _ _ (by omega),show(4:Int)=((4:Nat):Int)from rfl,zN,yJ (by omega)]
 have q2:bH .rem (.int .i64 (k:Int)) (.int .i64 4)=some (.int .i64 ((k%4:Nat):Int)):=by
  rw[ve _ _ _ (by omega),show(4:Int)=((4:Nat):Int)from rfl,A4]
 have w4:IntKind.wrap .i64 (4+((k%4:Nat):Int))=((4+k%4:Nat):Int):=by rw[show 4+((k%4:Nat):Int)=((4+k%4:Nat):Int)by omega];exact yJ (by omega)
 have hp:2^(k/4)≤2^5:=QO (by omega) (by omega)
 have hm:(4+k%4)* 2^(k/4)≤7* 2^5:=Nat.mul_le_mul (by omega) hp
 have q3:rL .shl .i64 ((4+k%4:Nat):Int) ((k/4:Nat):Int)=some (.int .i64 (((4+k%4)* 2^(k/4):Nat):Int)):=Ay (by omega) (by omega)
 generalize (4+k%4)* 2^(k/4)=P at *
 have w5:IntKind.wrap .i64 (3+(P:Int))=((3+P:Nat):Int):=by rw[show 3+(P:Int)=((3+P:Nat):Int)by omega];exact yJ (by omega)
 refine wX (fn:=AP.f50) (h2:=h.eY) (e:=[(2,I (3+P:Nat)),(3,I (k/4:Nat)),(4,I 0)]) rfl rfl rfl ?_ rfl rfl
 simp only[I]at *
 simp only[AP.f50,go_sem,QL c1',QL c2',c3',QL c4',w1,q1,q2,w4,q3,w5]
theorem He (h:H) (y:Nat) (hy:y<1000000):aV AP.A 51 [I y] h=some (Bw (zY y),h):=by
 have c0:¬(y:Int)<0:=by omega
 by_cases c1:30≤y
 · rw[zY,if_pos c1]
   refine wX (fn:=AP.f51) (h2:=h.eY) (e:=[(2,I 0),(3,I 0),(4,I 600)]) rfl rfl rfl ?_ rfl rfl
   have c1':(29:Int)<y:=by omega
   simp only[I]at *
   simp only[AP.f51,go_sem,QL c0,QM c1']
 have c1':¬(29:Int)<y:=by omega
 rw[zY,if_neg c1]
 by_cases c2:y<4
 · rw[if_pos c2]
   refine wX (fn:=AP.f51) (h2:=h.eY) (e:=[(2,I (1+y:Nat)),(3,I 0),(4,I 0)]) rfl rfl rfl ?_ rfl rfl
   have c2':(y:Int)<4:=by omega
   have w3:IntKind.wrap .i64 ((y:Int)+1)=((1+y:Nat):Int):=by rw[show(y:Int)+1=((1+y:Nat):Int)by omega];exact yJ (by omega)
   simp only[I]at *
   simp only[AP.f51,go_sem,QL c0,QL c1',QM c2',w3]
 rw[if_neg c2]
 have c2':¬(y:Int)<4:=by omega
 have w1:IntKind.wrap .i64 ((y:Int)-2)=((y-2:Nat):Int):=by rw[show(y:Int)-2=((y-2:Nat):Int)by omega];exact yJ (by omega)
 have q1:bH .quo (.int .i64 ((y-2:Nat):Int)) (.int .i64 2)=some (.int .i64 ((y/2-1:Nat):Int)):=by
  rw[u9 _ _ _ (by omega),show(2:Int)=((2:Nat):Int)from rfl,zN,yJ (by omega),show(y-2)/2=y/2-1 by omega]
 have q2:bH .rem (.int .i64 (y:Int)) (.int .i64 2)=some (.int .i64 ((y%2:Nat):Int)):=by
  rw[ve _ _ _ (by omega),show(2:Int)=((2:Nat):Int)from rfl,A4]
 have w4:IntKind.wrap .i64 (2+((y%2:Nat):Int))=((2+y%2:Nat):Int):=by rw[show 2+((y%2:Nat):Int)=((2+y%2:Nat):Int)by omega];exact yJ (by omega)
 have hp:2^(y/2-1)≤2^13:=QO (by omega) (by omega)
 have hm:(2+y%2)* 2^(y/2-1)≤3* 2^13:=Nat.mul_le_mul (by omega) hp
 have q3:rL .shl .i64 ((2+y%2:Nat):Int) ((y/2-1:Nat):Int)=some (.int .i64 (((2+y%2)* 2^(y/2-1):Nat):Int)):=Ay (by omega) (by omega)
 generalize (2+y%2)* 2^(y/2-1)=P at *
 have w5:IntKind.wrap .i64 (1+(P:Int))=((1+P:Nat):Int):=by rw[show 1+(P:Int)=((1+P:Nat):Int)by omega];exact yJ (by omega)
 refine wX (fn:=AP.f51) (h2:=h.eY) (e:=[(2,I (1+P:Nat)),(3,I (y/2-1:Nat)),(4,I 0)]) rfl rfl rfl ?_ rfl rfl
 simp only[I]at *
 simp only[AP.f51,go_sem,QL c0,QL c1',QL c2',w1,q1,q2,w4,q3,w5]
theorem Aq {c:FC} {S:SS} {h:H} {ov:AV} (st:Ft c S h ov) (n i:Nat) (hs:n≤i∨(i<n∧S.e≠0)):
 ∃e',Lp AP.A [0,2,4] AP.f19L0 [(0,.aH c.f 0),(2,I n),(4,I i)] h=some (.exit 0,e',h):=by
 have gf:=st.gf
 refine⟨[(0,.aH c.f 0),(2,I n),(4,I i),(36,.bool false)],wh ?_⟩
 rcases hs with hn|⟨hn,he⟩
 · have c1:¬(i:Int)<n:=by omega
   simp only[I]at *
   simp only[AP.f19L0,go_sem,QL c1]
 · have c1:(i:Int)<n:=by omega
   have c2:=xb he
   simp only[I]at *
   simp only[AP.f19L0,go_sem,QM c1,gf,c2]
theorem CO {c : FC} (n : Nat) (hn : n ≤ 65535) : ∀ (m i : Nat) (S : SS) (h : H) (ov : AV), i + m = n → Ft c S h ov → S.e = 0 →
 ∃e' h' ov' S',Lp AP.A [0,2,4] AP.f19L0 [(0,.aH c.f 0),(2,I n),(4,I i)] h=some (.exit 0,e',h')∧Ft c S' h' ov'∧FF c h ov h' ov'∧Fin (zG c.text c.most m S.at_ S.out) S'
 | 0, i, S, h, ov, hm, st, he => by
   obtain⟨e',q⟩:=Aq st n i (.inl (by omega))
   exact⟨e',h,ov,S,q,st,FF.refl _ _ _,by simp only[zG,Fin];cases S;simp_all⟩
 | m + 1, i, S, h, ov, hm, st, he => by
   have gf:=st.gf
   obtain⟨h1,k1,k2,k3⟩:=zU st 8 8 rfl (by omega)
   have c1:(i:Int)<n:=by omega
   have w1:IntKind.wrap .i64 ((i:Int)+1)=((i+1:Nat):Int):=yJ (n:=i+1) (by omega)
   by_cases hp:S.at_+8≤8* c.text.size
   · have eg:yY c 8 S=(yN c.text S.at_ 8,{S with at_:=S.at_+8}):=by rw[yY,if_pos hp]
     rw[eg]at k1 k2
     dsimp only at k1 k2
     have gf1:=k2.gf
     obtain⟨h2,ov2,S2,p1,p2,p3,p4⟩:=Gl k2 he (yN c.text S.at_ 8)
     have hb:=zg c.text S.at_ 8
     have w2:IntKind.wrap .u8 ((yN c.text S.at_ 8:Nat):Int)=((yN c.text S.at_ 8:Nat):Int):=wrap_u8 (by simpa using hb)
     have step:aP (aV AP.A) bL AP.f19L0 (aC [(0,.aH c.f 0),(2,I n),(4,I i)] [0,2,4]) h=some (.normal,[(0,.aH c.f 0),(2,I n),(4,I (i+1:Nat))],h2):=by
      dsimp only at gf1
      rw[he]at gf gf1
      simp only[I]at *
      simp only[AP.f19L0,go_sem,QM c1,gf,k1,gf1,w2,p1,w1]
     rw[zG,if_pos hp]
     dsimp only at p4
     by_cases hm':c.most≤S.out.length
     · rw[if_pos hm']at p4 ⊢
       have he2:S2.e=701:=by rw[p4]
       have hs:n≤i+1∨(i+1<n∧S2.e≠0):=by
        by_cases q:i+1<n
        · exact .inr ⟨q,by rw[he2];decide⟩
        · exact .inl (by omega)
       obtain⟨e',q⟩:=Aq p2 n (i+1) hs
       exact⟨e',h2,ov2,_,wj step q,p2,k3.trans p3,he2,by decide⟩
     · rw[if_neg hm']at p4 ⊢
       subst p4
       obtain⟨e',h',ov',S',q1,q2,q3,q4⟩:=CO n hn m (i+1) _ h2 ov2 (by omega) p2 rfl
       exact⟨e',h',ov',S',wj step q1,q2,(k3.trans p3).trans q3,q4⟩
   · have eg:yY c 8 S=(0,{S with e:=700}):=by rw[yY,if_neg hp,yQ,if_pos he]
     rw[eg]at k1 k2
     dsimp only at k1 k2
     have gf1:=k2.gf
     have step:aP (aV AP.A) bL AP.f19L0 (aC [(0,.aH c.f 0),(2,I n),(4,I i)] [0,2,4]) h=some (.normal,[(0,.aH c.f 0),(2,I n),(4,I (i+1:Nat))],h1):=by
      dsimp only at gf1
      rw[he]at gf
      simp only[I]at *
      simp only[AP.f19L0,go_sem,QM c1,gf,k1,gf1,w1]
     rw[zG,if_neg hp]
     have hs:n≤i+1∨(i+1<n∧(700:Int)≠0):=by
      by_cases q:i+1<n
      · exact .inr ⟨q,by decide⟩
      · exact .inl (by omega)
     obtain⟨e',q⟩:=Aq k2 n (i+1) hs
     exact⟨e',h1,ov,_,wj step q,k2,k3,rfl,by decide⟩
theorem De {a b:Nat} (ha:a<65536) (hb:b<65536):bits .xor .i64 (a:Int) (b:Int)=((a^^^b:Nat):Int):=by
 have h3:a^^^b<2^16:=Nat.xor_lt_two_pow (by simpa using ha) (by simpa using hb)
 show IntKind.wrap .i64 (((BitVec.ofInt 64 (a:Int)^^^BitVec.ofInt 64 (b:Int)).toNat:Nat):Int)=_
 rw[BitVec.toNat_xor,zM 64 a (by omega),zM 64 b (by omega)]
 exact yJ (by omega)
theorem E4 {n:Nat} (hn:n<65536):n^^^65535=65535-n:=by
 have h1:=FW hn
 have h2:=De hn (b:=65535) (by omega)
 rw[show((65535:Nat):Int)=65535 from rfl,h1]at h2
 omega
theorem G6 {a b:Nat} (ha:a<65536) (hb:b<65536):a^^^b=65535↔a+b=65535:=by
 have h1:=E4 ha
 constructor
 · intro h
   have:b=a^^^65535:=by rw[←h,←Nat.xor_assoc,Nat.xor_self,Nat.zero_xor]
   omega
 · intro h
   have:b=a^^^65535:=by omega
   rw[this,←Nat.xor_assoc,Nat.xor_self,Nat.zero_xor]
theorem Cx (c:FC) (n:Nat) (S:SS) (h:S.e=0∨S.e=700):(yY c n S).2.e=0∨(yY c n S).2.e=700:=by
 unfold yY;split
 · exact h
 · rcases h with h|h<;>simp [yQ,h]
theorem ER (c:FC) (S:SS) (n:Nat) (hn:n≤16):(yY c n S).1<65536:=by
 unfold yY;split
 · have:=zg c.text S.at_ n
   have:=QO (show 0<2 by omega) hn
   simp at *;omega
 · simp
theorem Hn {c : FC} {S : SS} {h : H} {ov : AV} (st : Ft c S h ov) (he : S.e = 0) :
 ∃h' ov' S',aV AP.A 19 [.aH c.f 0] h=some (.cf [],h')∧Ft c S' h' ov'∧FF c h ov h' ov'∧Fin (Az c.text c.most S.at_ S.out) S':=by
 obtain⟨h1,a1,a2,a3⟩:=HU st
 obtain⟨p,hp⟩:∃p,p=(S.at_+7)/8* 8:=⟨_,rfl⟩
 rw[←hp]at a2
 have hS:Az c.text c.most S.at_ S.out=if p+32≤8* c.text.size then(if yN c.text p 16+yN c.text (p+16) 16=65535 then zG c.text c.most (yN c.text p 16) (p+32) S.out else .error 700)else .error 700:=by
  rw[hp];rfl
 rw[hS];clear hS
 obtain⟨h2,b1,b2,b3⟩:=zU a2 16 16 rfl (by omega)
 obtain⟨h3,d1,d2,d3⟩:=zU b2 16 16 rfl (by omega)
 obtain⟨n,hn⟩:∃n,n=(yY c 16 {S with at_:=p}).1:=⟨_,rfl⟩
 obtain⟨S2,hS2⟩:∃n,n=(yY c 16 {S with at_:=p}).2:=⟨_,rfl⟩
 obtain⟨m,hm⟩:∃n,n=(yY c 16 S2).1:=⟨_,rfl⟩
 obtain⟨S3,hS3⟩:∃n,n=(yY c 16 S2).2:=⟨_,rfl⟩
 rw[←hn]at b1;rw[←hS2]at b2 d1 d2;rw[←hm]at d1;rw[←hS3]at d2
 have hn16:n<65536:=hn ▸ ER c _ 16 (by omega)
 have hm16:m<65536:=hm ▸ ER c _ 16 (by omega)
 have x1:=De hn16 hm16
 have gf3:=d2.gf
 by_cases h32:p+32≤8* c.text.size
 · have e2:yY c 16 {S with at_:=p}=(yN c.text p 16,{S with at_:=p+16}):=by rw[yY,if_pos (by show p+16≤_;omega)]
   rw[e2]at hn hS2;dsimp only at hn hS2;subst hS2
   have e3:yY c 16 {S with at_:=p+16}=(yN c.text (p+16) 16,{S with at_:=p+16+16}):=by rw[yY,if_pos (by show p+16+16≤_;omega)]
   rw[e3]at hm hS3;dsimp only at hm hS3;subst hS3
   dsimp only at gf3
   rw[he]at gf3
   rw[if_pos h32,←hn,←hm]
   by_cases hx:n+m=65535
   · rw[if_pos hx]
     have c1:(((n^^^m:Nat):Int) !=65535)=false:=xe (by have:=(G6 hn16 hm16).2 hx;omega)
     obtain⟨e',h',ov',S',q1,q2,q3,q4⟩:=CO n (by omega) n 0 _ h3 ov (by omega) d2 he
     have q1':Lp AP.A [0,2,4] AP.f19L0 [(0,.aH c.f 0),(2,I n),(4,I 0)] h3=some (.exit 0,e',h'):=q1
     clear q1
     refine⟨h',ov',S', ?_,q2,((a3.trans b3).trans d3).trans q3,q4⟩
     refine zh (fn:=AP.f19) (e:=[]) (vs:=[]) rfl rfl rfl ?_ rfl
     simp only[I]at *
     simp only[AP.f19,go_sem,vp,a1,b1,d1,gf3,x1,c1,q1']
   · rw[if_neg hx]
     have c1:(((n^^^m:Nat):Int) !=65535)=true:=xh (fun e=>hx ((G6 hn16 hm16).1 (by omega)))
     obtain⟨h4,f1,f2,f3⟩:=Ae d2
     have he4:(yQ 700 {S with at_:=p+16+16}).e=700:=by simp [yQ,he]
     have hs:n≤0∨(0<n∧(yQ 700 {S with at_:=p+16+16}).e≠0):=by
      by_cases q:0<n
      · exact .inr ⟨q,by rw[he4];decide⟩
      · exact .inl (by omega)
     obtain⟨e',q⟩:=Aq f2 n 0 hs
     have q':Lp AP.A [0,2,4] AP.f19L0 [(0,.aH c.f 0),(2,I n),(4,I 0)] h4=some (.exit 0,e',h4):=q
     clear q
     refine⟨h4,ov,_, ?_,f2,((a3.trans b3).trans d3).trans f3,he4,by decide⟩
     refine zh (fn:=AP.f19) (e:=[]) (vs:=[]) rfl rfl rfl ?_ rfl
     simp only[I]at *
     simp only[AP.f19,go_sem,vp,a1,b1,d1,gf3,x1,c1,f1,q']
 · rw [if_neg h32]
   have he3:S3.e=700:=by
    rw[hS3,hS2]
    unfold yY
    by_cases q1:p+16≤8* c.text.size
    · simp only[if_pos q1]
      rw[if_neg (by omega)];simp [yQ,he]
    · simp only[if_neg q1,yQ,he,if_true]
      split<;>simp
   have c0:(S3.e==0)=false:=xb (by rw[he3];decide)
   have hs:n≤0∨(0<n∧S3.e≠0):=by
    by_cases q:0<n
    · exact .inr ⟨q,by rw[he3];decide⟩
    · exact .inl (by omega)
   obtain⟨e',q⟩:=Aq d2 n 0 hs
   have q':Lp AP.A [0,2,4] AP.f19L0 [(0,.aH c.f 0),(2,I n),(4,I 0)] h3=some (.exit 0,e',h3):=q
   clear q
   refine⟨h3,ov,S3, ?_,d2,(a3.trans b3).trans d3,he3,by decide⟩
   refine zh (fn:=AP.f19) (e:=[]) (vs:=[]) rfl rfl rfl ?_ rfl
   simp only[I]at *
   simp only[AP.f19,go_sem,vp,a1,b1,d1,gf3,c0,q']
end Ab
