/- Part C4. -/
import Derived.Test.YtcapkjggnnakfaaGreatDoorC3
set_option linter.unusedSimpArgs false
set_option linter.unusedVariables false
set_option maxRecDepth 100000
namespace Ab
open Go
theorem Gn (i:Nat):∀(n k:Nat) (l:List ByteArray) (h:H),k+n=l.length→l.length<1000000→(∀j s,k≤j→l[j]?=some s→s.size≤1000)→h.get i=some (wW l)→h.floor≤i→
 ∃e' l',Lp AP.A [0,2] AP.f274L0 [(0,.aD i 0 l.length 1),(2,.int .i64 k)] h=some (.exit 0,e',h.set i (wW l'))∧l'.length=l.length
 | 0, k, l, h, hk, hl, hs, hg, hf => by
   obtain rfl:k=l.length:=by omega
   refine⟨[(0,.aD i 0 l.length 1),(2,.int .i64 l.length),(6,.bool false)],l, ?_,rfl⟩
   rw[H.jI hg]
   refine tF ?_
   simp (disch:=omega)only[go_sem,vN,AP.f274L0]
 | n + 1, k, l, h, hk, hl, hs, hg, hf => by
   obtain⟨x,hx⟩:∃x,l[k]?=some x:=⟨l[k]'(by omega),by simp⟩
   have hz:=hs k x (u6 _) hx
   have ix:(wW l)[k]?=some (.str x):=by simp [wW,hx]
   obtain⟨t,ht⟩:∃t:ByteArray,t=(⟨#[126]⟩:ByteArray)++x:=⟨_,rfl⟩
   have ad:br .add (.str ⟨#[126]⟩) (.str x)=some (.str t):=by rw[ht];exact Af (by have:(⟨#[126]⟩:ByteArray).size=1:=rfl;omega)
   obtain⟨l2,e2⟩:∃l2,l2=l.set k t:=⟨_,rfl⟩
   have st:(wW l).set k (.str t)=wW l2:=by rw[e2];simp [wW,List.map_set]
   have il:(wW l).length=l.length:=wA l
   have st2:ur h i k 1 [.str t] (some (wW l))=some (h.set i (wW l2)):=by rw[uK hf (by omega) rfl,st]
   have ln:l2.length=l.length:=by rw[e2,List.length_set]
   obtain⟨e',l',r1,r2⟩:=Gn i n (k+1) l2 (h.set i (wW l2)) (by omega) (by omega) (fun j s hj q=>hs j s (by omega) (by rw[e2,List.getElem?_set_ne (by omega)]at q;exact q)) (by rw[vP rfl,hg];rfl) (by simpa using hf)
   rw[H.set_set,ln]at r1
   have w1:((k+1:Nat):Int)=(k:Int)+1:=by omega
   rw[w1]at r1
   refine⟨e',l',tG ?_ r1,by rw[r2,ln]⟩
   clear r1 hx hs ht
   simp (disch:=omega)only[go_sem,vN,AP.f274L0,hg,ix,ad,st2]
theorem KI {h:H} {i:Nat} {l:List ByteArray} (hg:h.get i=some (wW l)) (hl:l.length<1000000) (hs:∀s∈l,s.size≤1000) (hf:h.floor≤i):∃l',aS AP.A 274 [.aD i 0 l.length 1] h=some (.bP [],h.set i (wW l')):=by
 obtain⟨e',l',r1,r2⟩:=Gn i l.length 0 l h (by omega) hl (fun j s _ q=>hs s (vi q)) hg hf
 have r1':Lp AP.A [0,2] AP.f274L0 [(0,.aD i 0 l.length 1),(2,.int .i64 0)] h=some (.exit 0,e',h.set i (wW l')):=r1
 obtain⟨e2,he⟩:∃e2,aM (aS AP.A) bB AP.f274.body (params 0 [.aD i 0 l.length 1]) h=some (.normal,e2,h.set i (wW l')):=by
  refine⟨?_, ?_⟩
  rotate_left
  · simp (disch:=omega)only[go_sem,vN,AP.f274,sF,r1']
    rfl
 exact⟨l',wC (fn:=AP.f274) (e:=e2) (vs:=[]) rfl rfl rfl he rfl⟩
theorem AG (h:H):aS AP.A 274 [.aQ] h=some (.bP [],h):=by
 have r:Lp AP.A [0,2] AP.f274L0 [(0,.aQ),(2,.int .i64 0)] h=some (.exit 0,[(0,.aQ),(2,.int .i64 0),(6,.bool false)],h):=by
  refine tF ?_
  simp (disch:=omega)only[go_sem,vN,AP.f274L0]
 obtain⟨e2,he⟩:∃e2,aM (aS AP.A) bB AP.f274.body (params 0 [.aQ]) h=some (.normal,e2,h):=by
  refine⟨?_, ?_⟩
  rotate_left
  · simp (disch:=omega)only[go_sem,vN,AP.f274,sF,r]
    rfl
 exact wC (fn:=AP.f274) (e:=e2) (vs:=[]) rfl rfl rfl he rfl
theorem zN (h:H):aS AP.A 201 [.aQ] h=some (.bP [],h):=by
 have r:Lp AP.A [0,2] AP.f201L0 [(0,.aQ),(2,.int .i64 0)] h=some (.exit 0,[(0,.aQ),(2,.int .i64 0),(6,.bool false)],h):=by
  refine tF ?_
  simp (disch:=omega)only[go_sem,vN,AP.f201L0]
 obtain⟨e2,he⟩:∃e2,aM (aS AP.A) bB AP.f201.body (params 0 [.aQ]) h=some (.normal,e2,h):=by
  refine⟨?_, ?_⟩
  rotate_left
  · simp (disch:=omega)only[go_sem,vN,AP.f201,sF,r]
    rfl
 exact wC (fn:=AP.f201) (e:=e2) (vs:=[]) rfl rfl rfl he rfl
theorem zO (h:H):aS AP.A 275 [.aQ] h=some (.bP [],h):=by
 have r:Lp AP.A [0,2] AP.f275L0 [(0,.aQ),(2,.int .i64 0)] h=some (.exit 0,[(0,.aQ),(2,.int .i64 0),(6,.bool false)],h):=by
  refine tF ?_
  simp (disch:=omega)only[go_sem,vN,AP.f275L0]
 obtain⟨e2,he⟩:∃e2,aM (aS AP.A) bB AP.f275.body (params 0 [.aQ]) h=some (.normal,e2,h):=by
  refine⟨?_, ?_⟩
  rotate_left
  · simp (disch:=omega)only[go_sem,vN,AP.f275,sF,r]
    rfl
 exact wC (fn:=AP.f275) (e:=e2) (vs:=[]) rfl rfl rfl he rfl
def Vv (z f:Nat):aH:=(.seq (.seq (.o5 [⟨(some 3),.mv (.t 2),none⟩,⟨(some 4),.mv (.t 0),none⟩,⟨(some 5),.len false (.t 4),none⟩,⟨(some 6),.bin .lss (.t 3) (.t 5),none⟩] [0,2,6]) (.cond (.t 6) (.skip) (.exit 0) [0,2])) (.seq (.block 1 (.seq (.o5 [⟨(some 9),.mv (.t 0),none⟩,⟨(some 10),.mv (.t 2),none⟩,⟨(some 11),.nZ z (.t 9) (.t 10),none⟩,⟨(some 12),.nY f (.t 11),none⟩,⟨(some 13),.load false 1 (.t 12),none⟩,⟨(some 14),.call (.c (.fn 168 [] [])) [(.t 13)],none⟩] [0,2]) (.o5 [⟨(some 15),.mv (.t 0),none⟩,⟨(some 16),.mv (.t 2),none⟩,⟨(some 17),.mv (.t 0),none⟩,⟨(some 18),.mv (.t 2),none⟩,⟨(some 19),.nZ z (.t 17) (.t 18),none⟩,⟨(some 20),.nY 0 (.t 19),none⟩,⟨(some 21),.load false 1 (.t 20),none⟩,⟨(some 22),.bin .add (.t 21) (.c (.str ⟨#[33]⟩)),none⟩,⟨(some 23),.nZ z (.t 15) (.t 16),none⟩,⟨(some 24),.nY 0 (.t 23),none⟩,⟨none,.store 1 (.t 24) (.t 22),none⟩] [0,2])) [0,2]) (.o5 [⟨(some 7),.mv (.t 2),none⟩,⟨(some 8),.bin .add (.t 7) (.c (.int .i64 1)),none⟩,⟨(some 2),.mv (.t 8),none⟩] [0,2])))
structure SE (z f B N:Nat) (h:H) (o n i:Nat) (cs:List AV):Prop where
 get:h.get o=some cs
 len:cs.length=n* z
 fl:h.floor≤o
 bo:B≤o∧o<N
 el:∀k,k<n→∃(s:ByteArray) (j:Nat) (l:List Int),cs[k* z]?=some (.str s)∧s.size≤8+(if k<i then 1 else 0)∧cs[k* z+f]?=some (.aD j 0 4 1)∧h.get j=some (ints l)∧l.length=4∧B≤j∧j≠o∧h.floor≤j∧j<N
theorem DA {z f : Nat} (hz : 0 < f ∧ f < z) (B N o n : Nat) (hn : n ≤ 1000) : ∀ (m i : Nat), i + m = n → ∀ (h : H) (cs : List AV), SE z f B N h o n i cs →
 ∃e' h',Lp AP.A [0,2] (Vv z f) [(0,.aD o 0 n z),(2,.int .i64 i)] h=some (.exit 0,e',h')∧(∀k,k<B∨N≤k→h'.get k=h.get k)∧h'.floor=h.floor∧h'.next=h.next
 | 0, i, hi, h, cs, sb => by
   obtain rfl:i=n:=by omega
   refine⟨[(0,.aD o 0 i z),(2,.int .i64 i),(6,.bool false)],h,tF ?_,fun k _=>rfl,rfl,rfl⟩
   simp (disch:=omega)only[go_sem,vN,Vv]
 | m + 1, i, hi, h, cs, sb => by
   obtain⟨s,j,l,e1,e2,e3,e4,e5,e6,e7,e8,e9⟩:=sb.el i (by omega)
   rw[if_neg (Nat.lt_irrefl _)]at e2
   obtain⟨l',k1,k2⟩:=Gm e4 (by omega) e8
   rw[e5]at k1 k2
   have hiz:i* z+z≤n* z:=by have:(i+1)* z≤n* z:=vh _ (by omega);rw[vB]at this;omega
   obtain⟨g,eg⟩:∃g,g=h.set j (ints l'):=⟨_,rfl⟩
   rw[←eg]at k1
   have go:g.get o=some cs:=by rw[eg,vL (fun q=>e7 q.symm)];exact sb.get
   have gf:g.floor=h.floor:=by rw[eg];simp
   obtain⟨t,ht⟩:∃t:ByteArray,t=s++⟨#[33]⟩:=⟨_,rfl⟩
   have tz:t.size=s.size+1:=by rw[ht,XE];rfl
   have ad:br .add (.str s) (.str ⟨#[33]⟩)=some (.str t):=by rw[ht];exact Af (by have:(⟨#[33]⟩:ByteArray).size=1:=rfl;omega)
   have st:ur g o (i* z) 1 [.str t] (some cs)=some (g.set o (cs.set (i* z) (.str t))):=uK (by rw[gf];exact sb.fl) (by rw[sb.len];omega) rfl
   have ne:∀k,k≠i→k* z≠i* z:=fun k hk q=>hk (Nat.eq_of_mul_eq_mul_right (by omega) q)
   have ne2:∀k,i* z≠k* z+f:=fun k q=>by
    have a1:(k* z+f)/z=k:=by rw[Nat.mul_comm,Nat.mul_add_div (by omega),Nat.div_eq_of_lt hz.2,Xq]
    have a2:(i* z)/z=i:=Nat.mul_div_cancel _ (by omega)
    rw[q,a1]at a2
    rw[a2]at q;omega
   have sb2:SE z f B N (g.set o (cs.set (i* z) (.str t))) o n (i+1) (cs.set (i* z) (.str t)):=by
    refine⟨by rw[vP rfl,go];rfl,by rw[List.length_set];exact sb.len,by simp [gf];exact sb.fl,sb.bo,fun k hk=> ?_⟩
    obtain⟨s',j',l2,a1,a2,a3,a4,a5,a6,a7,a8⟩:=sb.el k hk
    have b3:(cs.set (i* z) (.str t))[k* z+f]?=some (.aD j' 0 4 1):=by rw[List.getElem?_set_ne (ne2 k)];exact a3
    have b4:∃l3,(g.set o (cs.set (i* z) (.str t))).get j'=some (ints l3)∧l3.length=4:=by
     by_cases c:j'=j
     · subst c;exact⟨l',by rw[vL a7,eg,vP rfl,e4];rfl,k2⟩
     · exact⟨l2,by rw[vL a7,eg,vL c];exact a4,a5⟩
    obtain⟨l3,c4,c5⟩:=b4
    have fl8:(g.set o (cs.set (i* z) (.str t))).floor≤j':=by simp [gf];exact a8.1
    by_cases c:k=i
    · subst c
      exact⟨t,j',l3,by rw[vw (by rw[sb.len];omega)],by rw[tz,if_pos (by omega)];omega,b3,c4,c5,a6,a7,fl8,a8.2⟩
    · refine⟨s',j',l3,by rw[List.getElem?_set_ne (fun q=>ne k c q.symm)];exact a1, ?_,b3,c4,c5,a6,a7,fl8,a8.2⟩
      by_cases c1:k<i
      · rw[if_pos c1]at a2;rw[if_pos (by omega)];exact a2
      · rw[if_neg c1]at a2;rw[if_neg (by omega)];exact a2
   obtain⟨e',h2,r1,r2,r3,r4⟩:=DA hz B N o n hn m (i+1) (by omega) _ _ sb2
   have w1:((i+1:Nat):Int)=(i:Int)+1:=by omega
   rw[w1]at r1
   refine⟨e',h2,tG ?_ r1,fun k hk=>by rw[r2 k hk,vL (by have:=sb.bo;omega),eg,vL (by omega)],by rw[r3];simp [gf],by rw[r4,eg];simp⟩
   have gh:=sb.get
   have lc:=sb.len
   clear r1 r2 r3 r4 sb2 sb ht ne ne2
   generalize g.set o (cs.set (i* z) (.str t))=H2 at *
   simp (disch:=omega)only[go_sem,vN,Vv,gh,e3,k1,go,e1,ad,st]
structure WE (B:Nat) (h:H) (v:AV) (l:List wc):Prop where
 own:wo 9 h v l.length (vW l)
 ge:∀i,v.id?=some i→B≤i
 el:∀x∈l,x.1.name.size≤8∧x.1.vec.length=4∧∃j,x.2=.aD j 0 4 1∧h.get j=some (ints x.1.vec)∧B≤j∧v.id?≠some j∧h.floor≤j
theorem WE.mono {B:Nat} {h g:H} {v:AV} {l:List wc} (w:WE B h v l) (hf:g.floor=h.floor) (hg:∀i,B≤i→i<h.next→(v.id?=some i∨∃x∈l,x.2.id?=some i)→g.get i=h.get i):WE B g v l:=
 ⟨w.own.mono hf fun i q=>hg i (w.ge i q) (w.own.lt q).2 (.inl q),w.ge,fun x hx=>by
  obtain⟨c1,c2,j,a1,a2,a3,a4,a5⟩:=w.el x hx
  exact⟨c1,c2,j,a1,by rw[hg j a3 (h.lt _ _ a2) (.inr ⟨x,hx,by rw[a1];rfl⟩)];exact a2,a3,a4,by rw[hf];exact a5⟩⟩
theorem I9 {B N : Nat} {h : H} {v : AV} {l : List wc} (w : WE B h v l) (hN : (∀ i, v.id? = some i → i < N) ∧ ∀ x ∈ l, ∀ i, x.2.id? = some i → i < N) (hn : l.length ≤ 1000) : ∃ h', aS AP.A 275 [v] h = some (.bP [], h') ∧ (∀ k, k < B ∨ N ≤ k → h'.get k = h.get k) ∧ h'.floor = h.floor ∧ h'.next = h.next := by
 obtain⟨o1,⟨rfl,o2⟩|⟨i,rfl,o2,o3,o4⟩⟩:=w.own
 · exact⟨h,zO h,fun _ _=>rfl,rfl,rfl⟩
 · have sb:SE 9 2 B N h i l.length 0 (vW l):=by
    refine⟨o2,o1,o3,⟨w.ge i rfl,hN.1 i rfl⟩,fun k hk=> ?_⟩
    obtain⟨x,hx⟩:∃x,l[k]?=some x:=⟨l[k],by simp⟩
    have hm:=vi hx
    obtain⟨c1,c2,j,a1,a2,a3,a4,a5⟩:=w.el x hm
    have g:=fun m (hm:m<9)=>yS (f:=m) Aw hx hm
    refine⟨x.1.name,j,x.1.vec,g 0 (by omega),by omega, ?_,a2,c2,a3,fun q=>a4 (by rw[q];rfl),a5,hN.2 x hm j (by rw[a1];rfl)⟩
    rw[←a1];exact g 2 (by omega)
   obtain⟨e',h',r1,r2,r3,r4⟩:=DA (z:=9) (f:=2) ⟨by omega,by omega⟩ B N i l.length hn l.length 0 (by omega) h _ sb
   have r1':Lp AP.A [0,2] AP.f275L0 [(0,.aD i 0 l.length 9),(2,.int .i64 0)] h=some (.exit 0,e',h'):=r1
   obtain⟨e2,he⟩:∃e2,aM (aS AP.A) bB AP.f275.body (params 0 [.aD i 0 l.length 9]) h=some (.normal,e2,h'):=by
    refine⟨?_, ?_⟩
    rotate_left
    · simp (disch:=omega)only[go_sem,vN,AP.f275,sF,r1']
      rfl
   exact⟨h',wC (fn:=AP.f275) (e:=e2) (vs:=[]) rfl rfl rfl he rfl,r2,r3,r4⟩
def WI (B:Nat) (h:H) (v:AV) (l:List Int):Prop:=v=.aQ∨∃i,v=.aD i 0 l.length 1∧h.get i=some (ints l)∧h.floor≤i∧B≤i∧l.length<1000000
theorem Ev {B:Nat} {h:H} {v:AV} {l:List Int} (w:WI B h v l):∃h',aS AP.A 168 [v] h=some (.bP [],h')∧(∀k,v.id?≠some k→h'.get k=h.get k)∧h'.floor=h.floor∧h'.next=h.next:=by
 rcases w with rfl|⟨i,rfl,w1,w2,w3,w4⟩
 · exact⟨h,xX h,fun _ _=>rfl,rfl,rfl⟩
 · obtain⟨l',k,_⟩:=Gm w1 w4 w2
   exact⟨_,k,fun k hk=>by rw[vL (fun q=>hk (by rw[q];rfl))],by simp,by simp⟩
theorem WI.ge {B:Nat} {h:H} {v:AV} {l:List Int} (w:WI B h v l) {k:Nat} (hk:k<B):v.id?≠some k:=fun q=>by
 rcases w with rfl|⟨i,rfl,_,_,w3,_⟩
 · cases q
 · have:=uS q;omega
def WS (B:Nat) (h:H) (v:AV) (l:List ByteArray):Prop:=v=.aQ∨∃i,v=.aD i 0 l.length 1∧h.get i=some (wW l)∧h.floor≤i∧B≤i∧l.length<1000000∧∀s∈l,s.size≤1000
structure WB (B:Nat) (h:H) (v:AV) (l:List xx):Prop where
 own:wo 2 h v l.length (wO l)
 ge:∀i,v.id?=some i→B≤i
 el:∀x∈l,x.1.1.size≤8∧x.1.2.length=4∧∃j,x.2=.aD j 0 4 1∧h.get j=some (ints x.1.2)∧B≤j∧v.id?≠some j∧h.floor≤j
theorem WB.mono {B:Nat} {h g:H} {v:AV} {l:List xx} (w:WB B h v l) (hf:g.floor=h.floor) (hg:∀i,B≤i→i<h.next→(v.id?=some i∨∃x∈l,x.2.id?=some i)→g.get i=h.get i):WB B g v l:=
 ⟨w.own.mono hf fun i q=>hg i (w.ge i q) (w.own.lt q).2 (.inl q),w.ge,fun x hx=>by
  obtain⟨c1,c2,j,a1,a2,a3,a4,a5⟩:=w.el x hx
  exact⟨c1,c2,j,a1,by rw[hg j a3 (h.lt _ _ a2) (.inr ⟨x,hx,by rw[a1];rfl⟩)];exact a2,a3,a4,by rw[hf];exact a5⟩⟩
theorem I8 {B N : Nat} {h : H} {v : AV} {l : List xx} (w : WB B h v l) (hN : (∀ i, v.id? = some i → i < N) ∧ ∀ x ∈ l, ∀ i, x.2.id? = some i → i < N) (hn : l.length ≤ 1000) : ∃ h', aS AP.A 201 [v] h = some (.bP [], h') ∧ (∀ k, k < B ∨ N ≤ k → h'.get k = h.get k) ∧ h'.floor = h.floor ∧ h'.next = h.next := by
 obtain⟨o1,⟨rfl,o2⟩|⟨i,rfl,o2,o3,o4⟩⟩:=w.own
 · exact⟨h,zN h,fun _ _=>rfl,rfl,rfl⟩
 · have sb:SE 2 1 B N h i l.length 0 (wO l):=by
    refine⟨o2,o1,o3,⟨w.ge i rfl,hN.1 i rfl⟩,fun k hk=> ?_⟩
    obtain⟨x,hx⟩:∃x,l[k]?=some x:=⟨l[k],by simp⟩
    have hm:=vi hx
    obtain⟨c1,c2,j,a1,a2,a3,a4,a5⟩:=w.el x hm
    have g:=fun m (hm:m<2)=>yS (f:=m) yr hx hm
    refine⟨x.1.1,j,x.1.2,g 0 (by omega),by omega, ?_,a2,c2,a3,fun q=>a4 (by rw[q];rfl),a5,hN.2 x hm j (by rw[a1];rfl)⟩
    rw[←a1];exact g 1 (by omega)
   obtain⟨e',h',r1,r2,r3,r4⟩:=DA (z:=2) (f:=1) ⟨by omega,by omega⟩ B N i l.length hn l.length 0 (by omega) h _ sb
   have r1':Lp AP.A [0,2] AP.f201L0 [(0,.aD i 0 l.length 2),(2,.int .i64 0)] h=some (.exit 0,e',h'):=r1
   obtain⟨e2,he⟩:∃e2,aM (aS AP.A) bB AP.f201.body (params 0 [.aD i 0 l.length 2]) h=some (.normal,e2,h'):=by
    refine⟨?_, ?_⟩
    rotate_left
    · simp (disch:=omega)only[go_sem,vN,AP.f201,sF,r1']
      rfl
   exact⟨h',wC (fn:=AP.f201) (e:=e2) (vs:=[]) rfl rfl rfl he rfl,r2,r3,r4⟩
inductive WM (B:Nat) (h:H) (y:wJ):Prop where
 |d (hd:WI B h y.vd y.m.wS) (e1:y.vb=.aQ) (e2:y.vf=.aQ) (e3:y.vn=.aQ) (e4:y.ve=.aQ)
 |b (hb:WI B h y.vb y.m.wX) (hf:WB B h y.vf y.fs) (hn:y.fs.length≤1000) (ap:∀i,y.vb.id?=some i→y.vf.id?≠some i∧∀x∈y.fs,x.2.id?≠some i) (e1:y.vd=.aQ) (e3:y.vn=.aQ) (e4:y.ve=.aQ)
 |n (hn:WS B h y.vn y.m.names) (e1:y.vd=.aQ) (e2:y.vb=.aQ) (e3:y.vf=.aQ) (e4:y.ve=.aQ)
 |e (he:WE B h y.ve y.es) (hn:y.es.length≤1000) (e1:y.vd=.aQ) (e2:y.vb=.aQ) (e3:y.vf=.aQ) (e4:y.vn=.aQ)
theorem Hd:AP.f235.body=.seq (at_ 0 AP.f235.body) (.seq (at_ 1 AP.f235.body) (.seq (at_ 2 AP.f235.body) (.seq (at_ 3 AP.f235.body) (.seq (at_ 4 AP.f235.body) (DO 5 AP.f235.body))))):=rfl
theorem KH {B : Nat} {h : H} {y : wJ} (w : WM B h y) (hB : B ≤ h.next) (sc : y.vd.sc = true ∧ y.vb.sc = true ∧ y.vf.sc = true ∧ y.vn.sc = true ∧ y.ve.sc = true) : ∃ h', aS AP.A 235 [.agg (vH y)] h = some (.bP [], h') ∧ (∀ k, k < B → h'.get k = h.get k) ∧ h'.floor = h.floor ∧ h.next ≤ h'.next := by
 obtain⟨h1,eh1⟩:∃g,g=h.alloc (vH y):=⟨_,rfl⟩
 have n1:h1.next=h.next+1:=by rw[eh1];simp
 have f1:h1.floor=h.floor:=by rw[eh1];simp
 have g1:h1.get h.next=some (vH y):=by rw[eh1];exact vO rfl
 have low1:∀i,i<h.next→h1.get i=h.get i:=fun i hi=>by rw[eh1,vS (by omega)]
 have ly:(vH y).length=9:=rfl
 have cy:AV.aB (vH y)=true:=by obtain⟨a,b,c,d,e⟩:=sc;simp [vH,a,b,c,d,e]
 have b0:aM (aS AP.A) bB (at_ 0 AP.f235.body) (params 0 [.agg (vH y)]) h=some (.normal,[(1,.aC h.next 0)],h1):=by
  generalize vH y=X at *
  simp (disch:=omega)only[go_sem,vN,AP.f235,wD,ly,cy,←eh1]
 have go:∀{a2 a3 a4 a5 a6:H},aS AP.A 168 [y.vd] h1=some (.bP [],a2)→a2.get h.next=some (vH y)→aS AP.A 168 [y.vb] a2=some (.bP [],a3)→a3.get h.next=some (vH y)→aS AP.A 274 [y.vn] a3=some (.bP [],a4)→a4.get h.next=some (vH y)→aS AP.A 201 [y.vf] a4=some (.bP [],a5)→a5.get h.next=some (vH y)→aS AP.A 275 [y.ve] a5=some (.bP [],a6)→
  aS AP.A 235 [.agg (vH y)] h=some (.bP [],a6):=fun {a2 a3 a4 a5 a6} k1 r1 k2 r2 k3 r3 k4 r4 k5=>by
  have e4:(vH y)[4]?=some y.vd:=rfl
  have e5:(vH y)[5]?=some y.vb:=rfl
  have e6:(vH y)[6]?=some y.vf:=rfl
  have e7:(vH y)[7]?=some y.vn:=rfl
  have e8:(vH y)[8]?=some y.ve:=rfl
  refine wC (fn:=AP.f235) (e:=[]) (vs:=[]) rfl rfl rfl ?_ rfl
  generalize vH y=X at *
  clear w sc low1
  rw[Hd,rZ,b0,sY]
  simp (disch:=omega)only[go_sem,vN,AP.f235,wM,wD,yK,yL,g1,e4,k1,r1,e5,k2,r2,e7,k3,r3,e6,k4,r4,e8,k5]
 cases w with
 | d hd e1 e2 e3 e4 =>
   have hd1:WI B h1 y.vd y.m.wS:=hd.imp id fun ⟨i,a,b,c,d⟩=>⟨i,a,by rw[low1 i (h.lt _ _ b)];exact b,by rw[f1];exact c,d⟩
   obtain⟨a2,k1,k2,k3,k4⟩:=Ev hd1
   have r1:a2.get h.next=some (vH y):=by
    rw[k2 h.next]
    · exact g1
    · intro q
      rcases hd with q2|⟨i,q2,q3,_⟩
      · rw[q2]at q;cases q
      · rw[q2]at q;have:=uS q;have:=h.lt _ _ q3;omega
   refine⟨a2,go k1 r1 (by rw[e1];exact xX a2) r1 (by rw[e3];exact AG a2) r1 (by rw[e2];exact zN a2) r1 (by rw[e4];exact zO a2),fun k hk=>by rw[k2 k (hd.ge hk),low1 k (by omega)],by rw[k3,f1],by omega⟩
 | b hb hf hn ap e1 e3 e4 =>
   have hb1:WI B h1 y.vb y.m.wX:=hb.imp id fun ⟨i,a,b,c,d⟩=>⟨i,a,by rw[low1 i (h.lt _ _ b)];exact b,by rw[f1];exact c,d⟩
   obtain⟨a2,k1,k2,k3,k4⟩:=Ev hb1
   have r1:a2.get h.next=some (vH y):=by
    rw[k2 h.next]
    · exact g1
    · intro q
      rcases hb with q2|⟨i,q2,q3,_⟩
      · rw[q2]at q;cases q
      · rw[q2]at q;have:=uS q;have:=h.lt _ _ q3;omega
   have hf2:WB B a2 y.vf y.fs:=hf.mono (by rw[k3,f1]) fun i _ c2 c3=>by
    rw[k2 i,low1 i c2]
    intro q
    obtain⟨q1,q2⟩:=ap i q
    rcases c3 with c3|⟨x,hx,c3⟩
    · exact q1 c3
    · exact q2 x hx c3
   obtain⟨a3,m1,m2,m3,m4⟩:=I8 (N:=h.next) hf2 ⟨fun i q=>(hf.own.lt q).2,fun x hx i q=>by
    obtain⟨_,_,j,a1,a2,_⟩:=hf.el x hx
    rw[a1]at q;obtain rfl:=uS q;exact h.lt _ _ a2⟩ hn
   refine⟨a3,go (by rw[e1];exact xX h1) g1 k1 r1 (by rw[e3];exact AG a2) r1 m1 (by rw[m2 _ (.inr (u6 _))];exact r1) (by rw[e4];exact zO a3),fun k hk=>by rw[m2 k (.inl hk),k2 k (hb.ge hk),low1 k (by omega)],by rw[m3,k3,f1],by omega⟩
 | n hn e1 e2 e3 e4 =>
   obtain q2|⟨i,q2,q3,q4,q5,q6,q7⟩:=hn
   · exact⟨h1,go (by rw[e1];exact xX h1) g1 (by rw[e2];exact xX h1) g1 (by rw[q2];exact AG h1) g1 (by rw[e3];exact zN h1) g1 (by rw[e4];exact zO h1),fun k hk=>low1 k (by omega),f1,by omega⟩
   · have hi:=h.lt _ _ q3
     obtain⟨l',k1⟩:=KI (h:=h1) (by rw[low1 i hi];exact q3) q6 q7 (by rw[f1];exact q4)
     rw[←q2]at k1
     have r1:(h1.set i (wW l')).get h.next=some (vH y):=by rw[vL (by omega)];exact g1
     exact⟨_,go (by rw[e1];exact xX h1) g1 (by rw[e2];exact xX h1) g1 k1 r1 (by rw[e3];exact zN _) r1 (by rw[e4];exact zO _),fun k hk=>by rw[vL (by omega),low1 k (by omega)],by simp [f1],by simp;omega⟩
 | e he hn e1 e2 e3 e4 =>
   have he1:WE B h1 y.ve y.es:=⟨he.own.mono f1 fun i q=>low1 i (he.own.lt q).2,he.ge,fun x hx=>by
    obtain⟨c1,c2,j,a1,a2,a3,a4,a5⟩:=he.el x hx
    exact⟨c1,c2,j,a1,by rw[low1 j (h.lt _ _ a2)];exact a2,a3,a4,by rw[f1];exact a5⟩⟩
   obtain⟨a2,k1,k2,k3,k4⟩:=I9 (N:=h.next) he1 ⟨fun i q=>(he.own.lt q).2,fun x hx i q=>by
    obtain⟨_,_,j,a1,a2,_⟩:=he.el x hx
    rw[a1]at q;obtain rfl:=uS q;exact h.lt _ _ a2⟩ hn
   exact⟨a2,go (by rw[e1];exact xX h1) g1 (by rw[e2];exact xX h1) g1 (by rw[e4];exact AG h1) g1 (by rw[e3];exact zN h1) g1 k1,fun k hk=>by rw[k2 k (.inl hk),low1 k (by omega)],by rw[k3,f1],by omega⟩
theorem HO {m:Ae} (h:¬(m.kind=0∨m.kind=1∨m.kind=2∨m.kind=3∨m.kind=4)):xu m=false:=by
 unfold xu
 rw[if_neg (by omega),if_neg (by omega),if_neg (by omega),if_neg (by omega),if_neg (by omega)]
theorem Vc (h:H) (n:Int):aS AP.A 261 [.int .i64 n] h=some (.bool (!zm n),h):=by
 have k1:=LB h.dY n
 refine uo (fn:=AP.f261) (h2:=h.dY) (e:=[(2,.bool (!zm n))]) rfl rfl rfl ?_ rfl rfl
 simp (disch:=omega)only[go_sem,vN,AP.f261,k1]
def Vd (v:AV):Bool:=match v with| .int .i64 n=> !zm n|_=>false
theorem Fk:∀l:List Int,(ints l).any Vd= !l.all zm
 |[]=>rfl
 |n::l=>by
  have:=Fk l
  simp only[ints,Xk,List.any_cons,XG,Bool.not_and]at *
  rw[this];rfl
theorem J6 {G:H} {P:Nat} {D:List AV} {r:Int} {v4 v5 v6 v7 v8:AV} {a b c d e:Nat} (g:G.get P=some D) (d3:D[3]?=some (.int .i64 r)) (d4:D[4]?=some v4) (d5:D[5]?=some v5) (d6:D[6]?=some v6) (d7:D[7]?=some v7) (d8:D[8]?=some v8)
 (l4:ji false v4=some (.int .i64 a)) (l5:ji false v5=some (.int .i64 b)) (l6:ji false v6=some (.int .i64 c)) (l7:ji false v7=some (.int .i64 d)) (l8:ji false v8=some (.int .i64 e)) (za:a<140737488355328) (zb:b<140737488355328) (zc:c<140737488355328) (zd:d<140737488355328) (ze:e<140737488355328) (F:Bool):
 aM (aS AP.A) bB (DO 4 AP.f233.body) [(1,.aC P 0),(3,.bool F)] G=some (.ret,[(2,.bool (F&&(decide (r=0)&&decide ((((a:Int)+b)+c+d)+e=0))))],G):=by
 cases F with
 |false=>simp (disch:=omega)only[go_sem,vN,AP.f233,yK,yL]
 | true =>
   by_cases cr:r=0
   · by_cases ct:(((a:Int)+b)+c+d)+e=0<;>simp (disch:=omega)only[go_sem,vN,AP.f233,yK,yL,g,d3,d4,d5,d6,d7,d8,l4,l5,l6,l7,l8]
   · simp (disch:=omega)only[go_sem,vN,AP.f233,yK,yL,g,d3,d4,d5,d6,d7,d8,l4,l5,l6,l7,l8]
theorem J5 {G : H} {P : Nat} {C : List AV} {s d : Int} (g : G.get P = some C) (e1 : C[1]? = some (.int .i64 s)) (e2 : C[2]? = some (.int .i64 d)) : aM (aS AP.A) bB (at_ 1 AP.f233.body) [(1, .aC P 0)] G = if (wU s && (wU d && !decide (s = d))) = true then some (.normal, [(1, .aC P 0)], G) else some (.ret, [(2, .bool false)], G) := by
 have q1:=Dh G s
 have q2:=Dh G d
 cases b1:wU s with
 | false =>
   rw[b1]at q1
   rw[Xg,if_neg (by decide)]
   simp (disch:=omega)only[go_sem,vN,AP.f233,wM,wD,g,e1,e2,q1,q2]
 | true =>
   rw[b1]at q1
   cases b2:wU d with
   | false =>
     rw[b2]at q2
     rw[Xg,Xi,if_neg (by decide)]
     simp (disch:=omega)only[go_sem,vN,AP.f233,wM,wD,g,e1,e2,q1,q2]
   | true =>
     rw[b2]at q2
     by_cases c:s=d
     · rw[dt c,Bool.not_true,Xi,Xi,if_neg (by decide)]
       simp (disch:=omega)only[go_sem,vN,AP.f233,wM,wD,g,e1,e2,q1,q2]
     · rw[df c,Bool.not_false,Xr,Xr,if_pos rfl]
       simp (disch:=omega)only[go_sem,vN,AP.f233,wM,wD,g,e1,e2,q1,q2]
theorem J4:AP.f233.body=.seq (at_ 0 AP.f233.body) (.seq (at_ 1 AP.f233.body) (.seq (at_ 2 AP.f233.body) (.seq (at_ 3 AP.f233.body) (DO 4 AP.f233.body)))):=rfl
theorem RS (G:H) (x:wJ) (o:zS G x) (P:Nat) (hP:G.floor≤P) (g:G.get P=some (vH x)) (hk:x.m.kind=0):∃H2,aM (aS AP.A) bB (at_ 3 AP.f233.body) [(1,.aC P 0),(3,.bool false)] G=some (.normal,[(1,.aC P 0),(3,.bool (zm x.m.root))],H2)∧H2.get P=some (vH {x with m:={x.m with root:=0}}):=by
 have lC:(vH x).length=9:=rfl
 have e0:(vH x)[0]?=some (.int .i64 0):=by rw[←hk];rfl
 have e3:(vH x)[3]?=some (.int .i64 x.m.root):=rfl
 have st:ur G P 3 1 [.int .i64 0] (some (vH x))=some (G.set P (vH {x with m:={x.m with root:=0}})):=by rw[uK hP (by rw[lC];omega) rfl];rfl
 refine⟨G.set P (vH {x with m:={x.m with root:=0}}), ?_,by rw[vP rfl,g];rfl⟩
 have k1:=LB G x.m.root
 clear o
 generalize vH {x with m:={x.m with root:=0}}=D at *
 generalize vH x=C at *
 simp (disch:=omega)only[go_sem,vN,AP.f233,wM,wD,g,e0,e3,st,k1]
theorem RT (G:H) (x:wJ) (o:zS G x) (P:Nat) (hP:G.floor≤P) (g:G.get P=some (vH x)) (hk:x.m.kind=1):∃H2,aM (aS AP.A) bB (at_ 3 AP.f233.body) [(1,.aC P 0),(3,.bool false)] G=some (.normal,[(1,.aC P 0),(3,.bool (decide (x.m.wS.length=8)&&x.m.wS.all zm))],H2)∧H2.get P=some (vH {x with vd:=.aQ}):=by
 have lC:(vH x).length=9:=rfl
 have e0:(vH x)[0]?=some (.int .i64 1):=by rw[←hk];rfl
 have e4:(vH x)[4]?=some (x.vd):=rfl
 have st:ur G P 4 1 [.aQ] (some (vH x))=some (G.set P (vH {x with vd:=.aQ})):=by rw[uK hP (by rw[lC];omega) rfl];rfl
 refine⟨G.set P (vH {x with vd:=.aQ}), ?_,by rw[vP rfl,g];rfl⟩
 have ld:=o.rd.len
 rw[pP]at ld
 simp only[I]at ld
 have zd:=o.zd
 have k1:x.m.wS.length=8→aS AP.A 83 [x.vd,.fn 261 [] []] G=some (.bool (!x.m.wS.all zm),G):=fun q=>by
  have:=AW (fv:=.fn 261 [] []) Vd (fun v hv g=>by
   obtain⟨n,hn,rfl⟩:=Xl.1 hv
   rw[nQ];exact Vc g n) (by rw[pP];omega) G o.rd
  rw[Fk]at this;exact this
 clear o
 generalize vH {x with vd:=.aQ}=D at *
 generalize vH x=C at *
 by_cases c0:x.m.wS.length=8
 · generalize x.m.wS.all zm=B1 at *
   cases B1<;>simp (disch:=omega)only[go_sem,vN,AP.f233,wM,wD,g,e0,e4,st,ld,k1 c0,Bool.not_not]
 · simp (disch:=omega)only[go_sem,vN,AP.f233,wM,wD,g,e0,e4,st,ld]
theorem RU (G:H) (x:wJ) (o:zS G x) (P:Nat) (hP:G.floor≤P) (g:G.get P=some (vH x)) (hk:x.m.kind=2):∃H2,aM (aS AP.A) bB (at_ 3 AP.f233.body) [(1,.aC P 0),(3,.bool false)] G=some (.normal,[(1,.aC P 0),(3,.bool (decide (1≤x.m.wX.length)&&(yE x.m.wX&&(xe none (x.m.vR.map (·.1))&&(decide (x.m.vR.length≤6)&&x.m.vR.all fun b=>xn b.2)))))],H2)∧H2.get P=some (vH {x with vb:=.aQ,vf:=.aQ}):=by
 have lC:(vH x).length=9:=rfl
 have e0:(vH x)[0]?=some (.int .i64 2):=by rw[←hk];rfl
 have e5:(vH x)[5]?=some (x.vb):=rfl
 have e6:(vH x)[6]?=some (x.vf):=rfl
 obtain⟨D1,hD1⟩:∃D,D=vH {x with vb:=.aQ}:=⟨_,rfl⟩
 have lD1:D1.length=9:=by rw[hD1];rfl
 have g11:(G.set P D1).get P=some D1:=by rw[vP rfl,g];rfl
 have B0:ur G P 5 1 [.aQ] (some (vH x))=some (G.set P D1):=by rw[uK hP (by rw[lC];omega) rfl,hD1];rfl
 have st:ur (G.set P D1) P 6 1 [.aQ] (some D1)=some (G.set P (vH {x with vb:=.aQ,vf:=.aQ})):=by rw[uK (by simpa using hP) (by rw[lD1];omega) rfl,H.set_set,hD1];rfl
 refine⟨G.set P (vH {x with vb:=.aQ,vf:=.aQ}), ?_,by rw[vP rfl,g];rfl⟩
 have lb:=o.rb.len
 rw[pP]at lb
 simp only[I]at lb
 have zb:=o.zb
 have k1:=Ju G x.vb x.m.wX o.rb (by omega)
 have k2:=LV G o
 have k3:=Lg G o
 clear o hD1
 generalize vH {x with vb:=.aQ,vf:=.aQ}=D at *
 generalize vH x=C at *
 generalize yE x.m.wX=B1 at *
 generalize xe none (x.m.vR.map (·.1))=B2 at *
 generalize decide (x.m.vR.length≤6)=B4 at *
 generalize (x.m.vR.all fun b=>xn b.2)=B3 at *
 by_cases c0:1≤x.m.wX.length
 · cases B1<;>cases B2<;>cases B4<;>cases B3<;>simp (disch:=omega)only[go_sem,vN,AP.f233,wM,wD,g,e0,e5,e6,B0,g11,st,lb,k1,k2,k3]
 · simp (disch:=omega)only[go_sem,vN,AP.f233,wM,wD,g,e0,e5,e6,B0,g11,st,lb,k1,k2,k3]
theorem RW (G:H) (x:wJ) (o:zS G x) (P:Nat) (hP:G.floor≤P) (g:G.get P=some (vH x)) (hk:x.m.kind=3):∃H2,aM (aS AP.A) bB (at_ 3 AP.f233.body) [(1,.aC P 0),(3,.bool false)] G=some (.normal,[(1,.aC P 0),(3,.bool (xe none x.m.names&&(decide (1≤x.m.names.length)&&decide (x.m.names.length≤6))))],H2)∧H2.get P=some (vH {x with vn:=.aQ}):=by
 have lC:(vH x).length=9:=rfl
 have e0:(vH x)[0]?=some (.int .i64 3):=by rw[←hk];rfl
 have e7:(vH x)[7]?=some (x.vn):=rfl
 have st:ur G P 7 1 [.aQ] (some (vH x))=some (G.set P (vH {x with vn:=.aQ})):=by rw[uK hP (by rw[lC];omega) rfl];rfl
 refine⟨G.set P (vH {x with vn:=.aQ}), ?_,by rw[vP rfl,g];rfl⟩
 have k1:=LX G o
 clear o
 generalize vH {x with vn:=.aQ}=D at *
 generalize vH x=C at *
 generalize (xe none x.m.names&&(decide (1≤x.m.names.length)&&decide (x.m.names.length≤6)))=B1 at *
 simp (disch:=omega)only[go_sem,vN,AP.f233,wM,wD,g,e0,e7,st,k1]
theorem RX (G:H) (x:wJ) (o:zS G x) (P:Nat) (hP:G.floor≤P) (g:G.get P=some (vH x)) (hk:x.m.kind=4):∃H2,aM (aS AP.A) bB (at_ 3 AP.f233.body) [(1,.aC P 0),(3,.bool false)] G=some (.normal,[(1,.aC P 0),(3,.bool ((xe none (x.m.wT.map (·.name))&&(decide (1≤x.m.wT.length)&&decide (x.m.wT.length≤6)))&&x.m.wT.all xy))],H2)∧H2.get P=some (vH {x with ve:=.aQ}):=by
 have lC:(vH x).length=9:=rfl
 have e0:(vH x)[0]?=some (.int .i64 4):=by rw[←hk];rfl
 have e8:(vH x)[8]?=some (x.ve):=rfl
 have st:ur G P 8 1 [.aQ] (some (vH x))=some (G.set P (vH {x with ve:=.aQ})):=by rw[uK hP (by rw[lC];omega) rfl];rfl
 refine⟨G.set P (vH {x with ve:=.aQ}), ?_,by rw[vP rfl,g];rfl⟩
 have k1:=LW G o
 have k2:=Lh G o
 clear o
 generalize vH {x with ve:=.aQ}=D at *
 generalize vH x=C at *
 generalize (xe none (x.m.wT.map (·.name))&&(decide (1≤x.m.wT.length)&&decide (x.m.wT.length≤6)))=B1 at *
 generalize x.m.wT.all xy=B2 at *
 cases B1<;>cases B2<;>simp (disch:=omega)only[go_sem,vN,AP.f233,wM,wD,g,e0,e8,st,k1,k2,Bool.not_not]
theorem RY (G:H) (P:Nat) {C:List AV} {n:Int} (g:G.get P=some C) (e0:C[0]?=some (.int .i64 n)) (h:¬(n=0∨n=1∨n=2∨n=3∨n=4)):aM (aS AP.A) bB (at_ 3 AP.f233.body) [(1,.aC P 0),(3,.bool false)] G=some (.normal,[(1,.aC P 0),(3,.bool false)],G):=by
 simp (disch:=omega)only[go_sem,vN,AP.f233,wM,wD,g,e0]
theorem RZ (h : H) (x : wJ) (o : zS h x) : aS AP.A 233 [.agg (vH x)] h = some (.bool (zE x.m), h) := by
 obtain⟨h1,eh1⟩:∃g,g=h.dY.alloc (vH x):=⟨_,rfl⟩
 have x1:Ext h h1:=fun i c q=>by rw[eh1];exact((Ext.refl h.dY).alloc _) i c q
 have g1:h1.get h.next=some (vH x):=by rw[eh1];exact vO rfl
 have n0:h.dY.next=h.next:=rfl
 have f1:h1.floor=h.next:=by rw[eh1];simp
 have o1:=o.mono x1
 have ld:=o1.rd.len
 have lb:=o1.rb.len
 have lf:=o1.rf.rd.len
 have ln:=o1.rn.len
 have le:=o1.re.len
 rw[pP]at ld lb
 rw[wA]at ln
 rw[show x.fs.length=x.m.vR.length by rw[←o.hf];simp]at lf
 rw[show x.es.length=x.m.wT.length by rw[←o.he];simp]at le
 have b0:aM (aS AP.A) bB (at_ 0 AP.f233.body) (params 0 [.agg (vH x)]) h.dY=some (.normal,[(1,.aC h.next 0)],h1):=by
  have cC:=xG o
  have lC:(vH x).length=9:=rfl
  generalize vH x=C at *
  clear o o1 x1
  simp (disch:=omega)only[go_sem,vN,AP.f233,wD,lC,cC,n0,←eh1]
 have b1:=J5 g1 (s:=x.m.src) (d:=x.m.dst) rfl rfl
 have b2:aM (aS AP.A) bB (at_ 2 AP.f233.body) [(1,.aC h.next 0)] h1=some (.normal,[(1,.aC h.next 0),(3,.bool false)],h1):=by
  simp (disch:=omega)only[go_sem,vN,AP.f233,wM,wD]
 have eA:zE x.m=((wU x.m.src&&(wU x.m.dst&& !decide (x.m.src=x.m.dst)))&&(xu x.m&&yk x.m)):=rfl
 obtain ⟨hZ, hh⟩ : ∃ hZ, aM (aS AP.A) bB AP.f233.body (params 0 [.agg (vH x)]) h.dY = some (.ret, [(2, .bool (zE x.m))], hZ) := by
  rw[J4,eA]
  generalize (wU x.m.src&&(wU x.m.dst&& !decide (x.m.src=x.m.dst)))=N at *
  cases N with
  | false =>
    rw[if_neg (by decide)]at b1
    refine⟨h1, ?_⟩
    rw[Xg,rZ,b0,sY,rZ,b1,sZ]
  | true =>
    rw[if_pos rfl]at b1
    rw[Xj]
    have go:∀{F:Bool} {H2:H} {y:wJ} {a b c d e:Nat},aM (aS AP.A) bB (at_ 3 AP.f233.body) [(1,.aC h.next 0),(3,.bool false)] h1=some (.normal,[(1,.aC h.next 0),(3,.bool F)],H2)→H2.get h.next=some (vH y)→
     ji false y.vd=some (.int .i64 a)→ji false y.vb=some (.int .i64 b)→ji false y.vf=some (.int .i64 c)→ji false y.vn=some (.int .i64 d)→ji false y.ve=some (.int .i64 e)→a<140737488355328→b<140737488355328→c<140737488355328→d<140737488355328→e<140737488355328→
     xu x.m=F→(F=true→yk x.m=(decide (y.m.root=0)&&decide ((((a:Int)+b)+c+d)+e=0)))→
     ∃hZ,aM (aS AP.A) bB (.seq (at_ 0 AP.f233.body) (.seq (at_ 1 AP.f233.body) (.seq (at_ 2 AP.f233.body) (.seq (at_ 3 AP.f233.body) (DO 4 AP.f233.body))))) (params 0 [.agg (vH x)]) h.dY=some (.ret,[(2,.bool (xu x.m&&yk x.m))],hZ):=fun {F H2 y a b c d e} k1 k2 l4 l5 l6 l7 l8 za zb zc zd ze ek el=>by
     have b4:=J6 k2 (r:=y.m.root) rfl rfl rfl rfl rfl rfl l4 l5 l6 l7 l8 za zb zc zd ze F
     refine⟨H2, ?_⟩
     rw[rZ,b0,sY,rZ,b1,sY,rZ,b2,sY,rZ,k1,sY,b4,ek]
     cases F with
     |false=>rfl
     |true=>rw[el rfl]
    by_cases hk:x.m.kind=0
    · obtain⟨H2,k1,k2⟩:=RS h1 x o1 h.next (by omega) g1 hk
      exact go k1 k2 ld lb lf ln le o.zd o.zb o.zf o.zn o.ze (by unfold xu;rw[if_pos hk]) fun _=>by rw[RK hk];rfl
    by_cases hk:x.m.kind=1
    · obtain⟨H2,k1,k2⟩:=RT h1 x o1 h.next (by omega) g1 hk
      exact go k1 k2 (a:=0) rfl lb lf ln le (by omega) o.zb o.zf o.zn o.ze (by unfold xu;rw[if_neg (by omega),if_pos hk]) fun _=>RL hk
    by_cases hk:x.m.kind=2
    · obtain⟨H2,k1,k2⟩:=RU h1 x o1 h.next (by omega) g1 hk
      exact go k1 k2 (b:=0) (c:=0) ld rfl rfl ln le o.zd (by omega) (by omega) o.zn o.ze (by unfold xu;rw[if_neg (by omega),if_neg (by omega),if_pos hk]) fun _=>RM hk
    by_cases hk:x.m.kind=3
    · obtain⟨H2,k1,k2⟩:=RW h1 x o1 h.next (by omega) g1 hk
      exact go k1 k2 (d:=0) ld lb lf rfl le o.zd o.zb o.zf (by omega) o.ze (by unfold xu;rw[if_neg (by omega),if_neg (by omega),if_neg (by omega),if_pos hk]) fun _=>lean_3 hk
    by_cases hk:x.m.kind=4
    · obtain⟨H2,k1,k2⟩:=RX h1 x o1 h.next (by omega) g1 hk
      refine go k1 k2 (e:=0) ld lb lf ln rfl o.zd o.zb o.zf o.zn (by omega) ?_ fun _=>RN hk
      unfold xu
      rw[if_neg (by omega),if_neg (by omega),if_neg (by omega),if_neg (by omega),if_pos hk]
      unfold xa xO
      have:=Gg x.m.wT none
      rw[Xp]at this
      generalize decide (x.m.wT.length≤6)=W at *
      generalize decide (1≤x.m.wT.length)=W2 at *
      cases W<;>cases W2<;>simp only[XL,Xi,Xg,Xj]<;>exact this
    have k1:=RY h1 h.next g1 (n:=x.m.kind) rfl (by omega)
    exact go k1 g1 ld lb lf ln le o.zd o.zb o.zf o.zn o.ze (HO (by omega)) fun q=>by cases q
 exact uo (fn:=AP.f233) (h2:=hZ) (e:=[(2,.bool (zE x.m))]) rfl rfl rfl hh rfl rfl
theorem LC (h:H) (v w:AV) (a b:List Int) (ra:Rd h v (ints a)) (rb:Rd h w (ints b)) (ha:xn a=true) (hb:xn b=true) (hfn:h.floor≤h.next):∃h',aS AP.A 110 [v,w] h=some (.bP [.aD (h.next+1) 0 4 1,.int .i64 0],h')∧h'.get (h.next+1)=some (ints (zj a b))∧h'.floor=h.floor∧h'.next=h.next+2∧∀i,i<h.next→h'.get i=h.get i:=by
 have la:a.length=4:=by unfold xn at ha;simp only[u9,Xh]at ha;exact ha.1
 have lb:b.length=4:=by unfold xn at hb;simp only[u9,Xh]at hb;exact hb.1
 have k1:=Il h v a ra (by omega)
 have k2:=Il h w b rb (by omega)
 rw[ha]at k1;rw[hb]at k2
 have k3:=EN h v a ra (by omega) (by omega) hfn
 rw[la]at k3
 obtain⟨h1,eh1⟩:∃g,g=((h.alloc []).del h.next).alloc (ints a):=⟨_,rfl⟩
 rw[←eh1]at k3
 have n1:h1.next=h.next+2:=by rw[eh1];simp
 have f1:h1.floor=h.floor:=by rw[eh1];simp
 have g1:h1.get (h.next+1)=some (ints a):=by rw[eh1];exact vO (by simp)
 have e1:Ext h h1:=fun i c q=>by
  have:=h.lt _ _ q
  rw[eh1,H.aX,if_neg (by simp;omega),H.eh,if_neg (by omega),H.aX,if_neg (by omega)];exact q
 have ln:=(rb.mono fun i c q=>e1 i c q).len
 rw[pP,lb]at ln
 obtain⟨adv,a1,a2⟩:=rb.xg
 obtain⟨a0,b0,c0,d0,rfl⟩:=Mu la
 obtain⟨p0,p1,p2,p3,rfl⟩:=Mu lb
 obtain⟨h2,eh2⟩:∃g,g=h1.set (h.next+1) (ints [xJ a0 p0,b0,c0,d0]):=⟨_,rfl⟩
 obtain⟨h3,eh3⟩:∃g,g=h2.set (h.next+1) (ints [xJ a0 p0,xJ b0 p1,c0,d0]):=⟨_,rfl⟩
 obtain⟨h4,eh4⟩:∃g,g=h3.set (h.next+1) (ints [xJ a0 p0,xJ b0 p1,xJ c0 p2,d0]):=⟨_,rfl⟩
 obtain⟨h5,eh5⟩:∃g,g=h4.set (h.next+1) (ints [xJ a0 p0,xJ b0 p1,xJ c0 p2,xJ d0 p3]):=⟨_,rfl⟩
 have g2:h2.get (h.next+1)=some (ints [xJ a0 p0,b0,c0,d0]):=by rw[eh2,vP rfl,g1];rfl
 have g3:h3.get (h.next+1)=some (ints [xJ a0 p0,xJ b0 p1,c0,d0]):=by rw[eh3,vP rfl,g2];rfl
 have g4:h4.get (h.next+1)=some (ints [xJ a0 p0,xJ b0 p1,xJ c0 p2,d0]):=by rw[eh4,vP rfl,g3];rfl
 have g5:h5.get (h.next+1)=some (ints [xJ a0 p0,xJ b0 p1,xJ c0 p2,xJ d0 p3]):=by rw[eh5,vP rfl,g4];rfl
 have e2:Ext h h2:=by rw[eh2];exact e1.set (by omega) _
 have e3:Ext h h3:=by rw[eh3];exact e2.set (by omega) _
 have e4:Ext h h4:=by rw[eh4];exact e3.set (by omega) _
 have s0:=AA h1 (h.next+1) w adv 0 a0 p0 _ (by omega) g1 rfl rfl (by omega) (a1 0 (by simp)) (a2 h1 e1 0 _ rfl)
 have s1:=AA h2 (h.next+1) w adv 1 b0 p1 _ (by omega) g2 rfl rfl (by rw[eh2];simp;omega) (a1 1 (by simp)) (a2 h2 e2 1 _ rfl)
 have s2:=AA h3 (h.next+1) w adv 2 c0 p2 _ (by omega) g3 rfl rfl (by rw[eh3,eh2];simp;omega) (a1 2 (by simp)) (a2 h3 e3 2 _ rfl)
 have s3:=AA h4 (h.next+1) w adv 3 d0 p3 _ (by omega) g4 rfl rfl (by rw[eh4,eh3,eh2];simp;omega) (a1 3 (by simp)) (a2 h4 e4 3 _ rfl)
 have st0:h1.set (h.next+1) ((ints [a0,b0,c0,d0]).set 0 (.int .i64 (xJ a0 p0)))=h2:=eh2.symm
 have B0:h2.set (h.next+1) ((ints [xJ a0 p0,b0,c0,d0]).set 1 (.int .i64 (xJ b0 p1)))=h3:=eh3.symm
 have st2:h3.set (h.next+1) ((ints [xJ a0 p0,xJ b0 p1,c0,d0]).set 2 (.int .i64 (xJ c0 p2)))=h4:=eh4.symm
 have st3:h4.set (h.next+1) ((ints [xJ a0 p0,xJ b0 p1,xJ c0 p2,d0]).set 3 (.int .i64 (xJ d0 p3)))=h5:=eh5.symm
 rw[st0]at s0;rw[B0]at s1;rw[st2]at s2;rw[st3]at s3
 have fin:Lp AP.A [6,19,20,21] AP.f110L0 [(6,.aD (h.next+1) 0 4 1),(19,w),(20,.int .i64 4),(21,.int .i64 4)] h5=some (.exit 0,[(6,.aD (h.next+1) 0 4 1),(19,w),(20,.int .i64 4),(21,.int .i64 4),(22,.bool false)],h5):=by
  refine tF ?_
  simp (disch:=omega)only[go_sem,vN,AP.f110L0]
 have lp:Lp AP.A [6,19,20,21] AP.f110L0 [(6,.aD (h.next+1) 0 4 1),(19,w),(20,.int .i64 4),(21,.int .i64 0)] h1=some (.exit 0,[(6,.aD (h.next+1) 0 4 1),(19,w),(20,.int .i64 4),(21,.int .i64 4),(22,.bool false)],h5):=
  tG s0 (tG s1 (tG s2 (tG s3 fin)))
 simp only[I]at ln
 have ln':ji false w=some (.int .i64 4):=ln
 refine⟨h5,tT (fn:=AP.f110) (h2:=h5) (e:=[(4,.aD (h.next+1) 0 4 1),(5,.int .i64 0)]) (vs:=[.aD (h.next+1) 0 4 1,.int .i64 0]) rfl rfl rfl ?_ rfl,g5,by rw[eh5,eh4,eh3,eh2];simp [f1],by rw[eh5,eh4,eh3,eh2];simp [n1],fun i hi=>by rw[eh5,vL (by omega),eh4,vL (by omega),eh3,vL (by omega),eh2,vL (by omega),eh1,H.aX,if_neg (by simp;omega),H.eh,if_neg (by omega),H.aX,if_neg (by omega)]⟩
 clear a1 a2 e1 e2 e3 e4 s0 s1 s2 s3 ra rb fin ha hb
 simp (disch:=omega)only[go_sem,vN,AP.f110,k1,k2,k3,ln',sF,lp]
theorem Ll (h:H) (hf:h.floor≤h.next) (e:wR) (v:AV) (hv:v.sc=true) (ok:xw h (e,v)) (h4:e.vec.length=4):
 ∃h' i,aS AP.A 308 [.agg (vT e v)] h=some (.agg (vT e (.aD i 0 4 1)),h')∧h'.get i=some (ints e.vec)∧h.next≤i∧Ext h h'∧h'.floor=h.floor∧h.next≤h'.next:=by
 obtain⟨h1,eh1⟩:∃g,g=h.alloc (vT e v):=⟨_,rfl⟩
 obtain⟨h2,eh2⟩:∃g,g=h1.alloc (vT BJ .aQ):=⟨_,rfl⟩
 obtain⟨h3,eh3⟩:∃g,g=((h2.alloc []).del h2.next).alloc (ints e.vec):=⟨_,rfl⟩
 have n1:h1.next=h.next+1:=by rw[eh1];simp
 have n2:h2.next=h.next+2:=by rw[eh2];simp [n1]
 have n3:h3.next=h.next+4:=by rw[eh3];simp [n2]
 have f2:h2.floor=h.floor:=by rw[eh2,eh1];simp
 have f3:h3.floor=h.floor:=by rw[eh3];simp [f2]
 have low:∀i,i<h.next+2→h3.get i=h2.get i:=fun i hi=>by rw[eh3,vS (by simp [n2];omega),H.eh,if_neg (by omega),vS (by omega)]
 have x2:Ext h h2:=by rw[eh2,eh1];exact((Ext.refl h).alloc _).alloc _
 have ga:h2.get h.next=some (vT e v):=by rw[eh2,vS (by omega),eh1,vO rfl]
 have gz:h2.get (h.next+1)=some (vT BJ .aQ):=by rw[eh2,vO (by omega)]
 have k1:=EN h2 v e.vec (ok.vec.mono fun i c q=>x2 i c q) (by omega) (by omega) (by rw[f2,n2];omega)
 rw[n2,h4]at k1
 rw[←n2,←eh3,n2]at k1
 have g3:h3.get (h.next+3)=some (ints e.vec):=by rw[eh3,vO (by simp [n2])]
 have ga3:h3.get h.next=some (vT e v):=by rw[low _ (by omega)];exact ga
 have gz3:h3.get (h.next+1)=some (vT BJ .aQ):=by rw[low _ (by omega)];exact gz
 obtain⟨w,hw⟩:∃w,w=AV.aD (h.next+3) 0 4 1:=⟨_,rfl⟩
 have k1':aS AP.A 118 [v] h2=some (w,h3):=by rw[hw];exact k1
 have sw:w.sc=true:=by rw[hw];rfl
 have cw:=xm sw
 obtain⟨h4',eh4⟩:∃g,g=h3.set h.next (vT e w):=⟨_,rfl⟩
 obtain⟨h5,eh5⟩:∃g,g=h4'.set (h.next+1) (vT e w):=⟨_,rfl⟩
 have ga4:h4'.get h.next=some (vT e w):=by rw[eh4,vP rfl,ga3];rfl
 have gz4:h4'.get (h.next+1)=some (vT BJ .aQ):=by rw[eh4,vL (by omega)];exact gz3
 have gz5:h5.get (h.next+1)=some (vT e w):=by rw[eh5,vP rfl,gz4];rfl
 have st4:ur h3 h.next 2 1 [w] (some (vT e v))=some h4':=by rw[uK (by omega) (by show 2<9;omega) sw,eh4];rfl
 have st5:ur h4' (h.next+1) 0 9 (vT e w) (some (vT BJ .aQ))=some h5:=by
  rw[eh5];exact wH (by rw[eh4];simp;omega) rfl rfl (yx sw)
 have K:aS AP.A 308 [.agg (vT e v)] h=some (.agg (vT e w),h5):=by
  refine tT (fn:=AP.f308) (h2:=h5) (e:=[(2,.aC (h.next+1) 0)]) (vs:=[.agg (vT e w)]) rfl rfl rfl ?_ (by simp only[AP.f308,cM,nk,mU,qQ,gz5,tu];rfl)
  have z:h1.alloc [.str ⟨#[]⟩,.bool false,.aQ,.int .i64 0,.int .i64 0,.int .i64 0,.str ⟨#[]⟩,.int .i64 0,.int .i64 0]=h2:=eh2.symm
  have lE:(vT e v).length=9:=rfl
  have cE:=yx (e:=e) hv
  have e2:(vT e v)[2]?=some v:=rfl
  have rr:ij true 9 (vT e w) 0=some (.agg (vT e w)):=rfl
  clear ok low x2 hw
  generalize vT e v=A at *
  generalize vT e w=B at *
  simp (disch:=omega)only[go_sem,vN,AP.f308,lE,cE,←eh1,n1,z,ga,e2,k1',ga3,cw,st4,ga4,rr,gz4,st5]
 rw[hw]at K
 refine⟨h5,h.next+3,K, ?_,by omega,fun i c q=> ?_,by rw[eh5,eh4];simp [f3],by rw[eh5,eh4];simp;omega⟩
 · rw[eh5,vL (by omega),eh4,vL (by omega)];exact g3
 · have:=h.lt _ _ q
   rw[eh5,vL (by omega),eh4,vL (by omega),low _ (by omega)];exact x2 i c q
def yJ (L:List wR) (b:GF):Bool:=(v9 b.1 L).2&&(match L[(v9 b.1 L).1]? with|some e=>decide (zj e.vec b.2=e.vec)|none=>false)
theorem Am (s:ByteArray):∀(L:List wR),(v9 s L).2=true→(v9 s L).1<L.length
 |[],h=>by cases h
 | e :: L, h => by
   rw[v9]at h ⊢
   by_cases c:Op.bytesLess e.name.toList s.toList=true
   · rw[if_pos c]at h ⊢
     have:=Am s L h
     simp only[W9];omega
   · rw[if_neg c];simp
theorem xS {L:List wR} (h:xa L=true):xO L=true:=by
 unfold xa at h;rw[u9]at h;exact h.1
theorem Al {L:List wR} (h:xa L=true):∀e∈L,xn e.vec=true∧e.vec.length=4∧e.name.size≤8:=fun e he=>by
 have m:=(wF (xS h)).2.1 e he
 have v:=m.2.1
 simp only[xj,u9]at v
 exact⟨v.1,(yj m.2.1).1,(xP m.1).2⟩
structure Sd (h:H) (v w:AV) (l:List wc):Prop where
 rd:xo 9 h v l.length (vW l)
 ok:∀x∈l,xw h x∧x.2.sc=true
 fo:xa (l.map (·.1))=true
 dg:Rd h w (ints (vY (l.map (·.1))))
theorem Sd.mono {h g:H} {v w:AV} {l:List wc} (s:Sd h v w l) (e:Ext h g):Sd g v w l:=
 ⟨s.rd.mono fun i c q=>e i c q,fun x hx=>⟨(s.ok x hx).1.mono e,(s.ok x hx).2⟩,s.fo,s.dg.mono fun i c q=>e i c q⟩
theorem Sd.len {h:H} {v w:AV} {l:List wc} (s:Sd h v w l):l.length≤6:=by
 have:=(wF (xS s.fo)).1
 simpa using this
theorem LD (h:H) (hf:h.floor≤h.next) (S:Nat) (v w:AV) (l:List wc) (sd:Sd h v w l) (gS:h.get S=some [v,w]) (p:AV) (b:GF) (vb:AV) (pn:∀g,jF g p=some (p,g)) (p0 p1:AV) (q0:fk 0 p=some p0) (q1:fk 1 p=some p1) (l0:∀g,Ext h g→bU false 1 p0 g=some (.str b.1)) (l1:∀g,Ext h g→bU false 1 p1 g=some vb) (rv:Rd h vb (ints b.2)) (hb:xn b.2=true):
 ∃h',aS AP.A 306 [.aC S 0,p] h=some (.bool (yJ (l.map (·.1)) b),h')∧Ext h h'∧h'.floor=h.floor∧h.next≤h'.next:=by
 have ln:=sd.len
 have k1:=Mr h S 0 v gS rfl l ln sd.rd (fun x hx=>(sd.ok x hx).2) b.1 (Ku (xS sd.fo))
 have m0:=l0 h (Ext.refl h)
 have m1:=l1 h (Ext.refl h)
 unfold yJ
 cases hp:(v9 b.1 (l.map (·.1))).2 with
 | false =>
   rw[hp]at k1
   rw[Xg]
   refine⟨h,tT (fn:=AP.f306) (h2:=h) (e:=[(4,.bool false)]) (vs:=[.bool false]) rfl rfl rfl ?_ rfl,Ext.refl h,rfl,u6 _⟩
   clear sd l0 l1 rv
   generalize (v9 b.1 (l.map (·.1))).1=K at *
   simp (disch:=omega)only[go_sem,vN,AP.f306,pn,q0,q1,m0,m1,k1]
 | true =>
   rw[hp]at k1
   rw[Xj]
   have lt:=Am _ _ hp
   rw[Xd]at lt
   obtain⟨x,hx⟩:∃x,l[(v9 b.1 (l.map (·.1))).1]?=some x:=⟨l[(v9 b.1 (l.map (·.1))).1],by simp⟩
   have hx':(l.map (·.1))[(v9 b.1 (l.map (·.1))).1]?=some x.1:=by rw[vq,hx];rfl
   rw[hx']
   have hm:=vi hx
   obtain⟨ok,sc⟩:=sd.ok x hm
   have fx:=Al sd.fo x.1 (Xl.2 ⟨x,hm,rfl⟩)
   obtain⟨ad,a1,a2⟩:=sd.rd.DY
   obtain⟨pe,_⟩:=a2 h (Ext.refl h) _ x hx
   have b1:=a1 (v9 b.1 (l.map (·.1))).1 ⟨by omega,by omega⟩
   obtain⟨qq,f1,f2⟩:=pe.tL
   have e2:=f2 h (Ext.refl h) 2 _ rfl
   obtain⟨h',k2,g2,f',n',low⟩:=LC h x.2 vb x.1.vec b.2 ok.vec rv fx.1 hb hf
   have x':Ext h h':=fun i c q=>by rw[low i (h.lt _ _ q)];exact q
   have jl:(zj x.1.vec b.2).length=4:=by
    have:b.2.length=4:=by simp only[xn,u9,Xh]at hb;exact hb.1
    simp [zj,fx.2.1,this]
   have k3:=TT h' (.aD (h.next+1) 0 4 1) x.2 (zj x.1.vec b.2) x.1.vec (Rd.obj g2 jl) (ok.vec.mono fun i c q=>x' i c q) (by omega) (by omega)
   refine⟨h',tT (fn:=AP.f306) (h2:=h') (e:=[(4,.bool (decide (zj x.1.vec b.2=x.1.vec)))]) (vs:=[.bool (decide (zj x.1.vec b.2=x.1.vec))]) rfl rfl rfl ?_ rfl,x',f',by omega⟩
   clear sd l0 l1 rv a1 a2 pe f2 ok x' low hx hx' hm
   generalize (v9 b.1 (l.map (·.1))).1=K at *
   generalize decide (zj x.1.vec b.2=x.1.vec)=B at *
   simp (disch:=omega)only[go_sem,vN,AP.f306,pn,q0,q1,m0,m1,gS,Xq,b1,f1,e2,k1,k2,k3]
structure WA (h:H) (O:Nat) (y:wJ):Prop where
 get:h.get O=some (vH y)
 fl:h.floor≤O
theorem KE (h:H) (S M O:Nat) (v w:AV) (l:List wc) (sd:Sd h v w l) (gS:h.get S=some [v,w]) (x y:wJ) (gM:h.get M=some (vH x)) (gO:h.get O=some (vH y)) (hO:h.floor≤O) (ne:S≠O∧M≠O) (sw:w.sc=true):
 aS AP.A 300 [.aC S 0,.aC M 0,.aC O 0] h=some (.bool (!decide (wG (vY (l.map (·.1)))=x.m.root)),h.set O (vH {y with m:={y.m with kind:=1},vd:=w})):=by
 have k1:=Kv h w _ sd.dg (by rw[wh];omega)
 unfold Dw at k1
 rw[CZ,wh,dt rfl,Xr,if_pos rfl]at k1
 obtain⟨h1,eh1⟩:∃g,g=h.set O (vH {y with m:={y.m with kind:=1}}):=⟨_,rfl⟩
 have B0:ur h O 0 1 [.int .i64 1] (some (vH y))=some h1:=by rw[uK hO (by show 0<9;omega) rfl,eh1];rfl
 have g1:h1.get O=some (vH {y with m:={y.m with kind:=1}}):=by rw[eh1,vP rfl,gO];rfl
 have st2:ur h1 O 4 1 [w] (some (vH {y with m:={y.m with kind:=1}}))=some (h.set O (vH {y with m:={y.m with kind:=1},vd:=w})):=by rw[uK (by rw[eh1];simpa using hO) (by show 4<9;omega) sw,eh1,H.set_set];rfl
 have cw:=xm sw
 obtain⟨h2,eh2⟩:∃g,g=h.set O (vH {y with m:={y.m with kind:=1},vd:=w}):=⟨_,rfl⟩
 have g2:h2.get M=some (vH x):=by rw[eh2,vL ne.2];exact gM
 have e3:(vH x)[3]?=some (.int .i64 x.m.root):=rfl
 rw[←eh2]at st2 ⊢
 refine tT (fn:=AP.f300) (h2:=h2) (e:=[(6,.bool (!decide (wG (vY (l.map (·.1)))=x.m.root)))]) (vs:=[.bool (!decide (wG (vY (l.map (·.1)))=x.m.root))]) rfl rfl rfl ?_ rfl
 clear sd
 generalize wG (vY (l.map (·.1)))=R at *
 generalize vH x=X at *
 generalize vH y=Y at *
 generalize vH {y with m:={y.m with kind:=1}}=Y1 at *
 by_cases c:R=x.m.root
 · rw[dt c]
   simp (disch:=omega)only[go_sem,vN,AP.f300,vk,Xq,gS,k1,gO,B0,g1,cw,st2,g2,e3,J9 c]
 · rw[df c]
   simp (disch:=omega)only[go_sem,vN,AP.f300,vk,Xq,gS,k1,gO,B0,g1,cw,st2,g2,e3,K3 c]
structure Jh (B G:H) (S M O:Nat) (v w:AV) (l:List wc) (x:wJ):Prop where
 sd:Sd B v w l
 ox:zS B x
 gS:G.get S=some [v,w]
 gM:G.get M=some (vH x)
 ne:S≠O∧M≠O
 Vz:Ext B G
 BO:B.next≤O
 ON:O<G.next
 fO:G.floor≤O
 fG:G.floor≤G.next
theorem Jh.ext {B G h:H} {S M O:Nat} {v w:AV} {l:List wc} {x:wJ} (k:Jh B G S M O v w l x) (low:∀i c,i≠O→G.get i=some c→h.get i=some c):Ext B h:=fun i c q=>by
 have:=B.lt _ _ q
 have:=k.BO
 exact low i c (by omega) (k.Vz i c q)
theorem Jh.S_ {B G h:H} {S M O:Nat} {v w:AV} {l:List wc} {x:wJ} (k:Jh B G S M O v w l x) (low:∀i c,i≠O→G.get i=some c→h.get i=some c):h.get S=some [v,w]∧h.get M=some (vH x):=
 ⟨low S _ k.ne.1 k.gS,low M _ k.ne.2 k.gM⟩
def wI:Nat→List Int→List Int→List Int
 |i,d::ds,m::ms=>if m=d then wI (i+1) ds ms else(i:Int)::wI (i+1) ds ms
 |_,_,_=>[]
theorem zC:∀(ds ms:List Int) (i:Nat) (p:Option Int),i+ds.length≤8→(∀q,p=some q→q<i)→yq p (wI i ds ms)=true
 |[],_,_,_,_,_=>by simp [wI,yq]
 |_::_,[],_,_,_,_=>by simp [wI,yq]
 | d :: ds, m :: ms, i, p, hl, hp => by
   rw[W9]at hl
   unfold wI
   split
   · exact zC ds ms (i+1) p (by omega) fun q hq=>by have:=hp q hq;omega
   · unfold yq
     simp only[u9,Xh]
     refine⟨⟨by omega,by omega, ?_⟩,zC ds ms (i+1) _ (by omega) fun q hq=>by have:=uS hq;omega⟩
     cases p with
     |none=>rfl
     |some q=>exact dt (hp q rfl)
theorem zB:∀(ds ms:List Int) (i:Nat),(wI i ds ms).length≤ds.length
 |[],_,_=>by simp [wI]
 |_::_,[],_=>by simp [wI]
 | d :: ds, m :: ms, i => by
   unfold wI
   have:=zB ds ms (i+1)
   split<;>simp only[W9]<;>omega
theorem DI {B G : H} {S M O : Nat} {v w : AV} {l : List wc} {x y : wJ} (k3 : Jh B G S M O v w l x) (l8 : x.m.wS.length = 8) : ∀ (q p r p' : List Int), vY (l.map (·.1)) = p ++ q → x.m.wS = p' ++ r → p.length = p'.length → ∀ (h : H) (ov : AV) (acc : List Int), (∀ i c, i ≠ O → G.get i = some c → h.get i = some c) → G.next ≤ h.next → h.floor = G.floor → h.get O = some (vH { y with vb := ov }) →
 wo 1 h ov acc.length (ints acc)→(∀j,ov.id?=some j→G.next≤j)→acc.length≤p.length→
 ∃ e' h' ov', Lp AP.A [0, 1, 2, 12, 13, 14] AP.f301L0 [(0, .aC S 0), (1, .aC M 0), (2, .aC O 0), (12, w), (13, .int .i64 8), (14, .int .i64 p.length)] h = some (.exit 0, e', h') ∧ look e' 0 = .aC S 0 ∧ look e' 2 = .aC O 0 ∧
   (∀i c,i≠O→G.get i=some c→h'.get i=some c)∧G.next≤h'.next∧h'.floor=G.floor∧h'.get O=some (vH {y with vb:=ov'})∧wo 1 h' ov' (acc++wI p.length q r).length (ints (acc++wI p.length q r))∧∀j,ov'.id?=some j→G.next≤j
 | [], p, r, p', hp, hp', hpp, h, ov, acc, low, hn, hf, hg, o, ho, ha => by
   rw[Xe]at hp
   have e8:p.length=8:=by rw[←hp,wh]
   refine⟨[(0,.aC S 0),(1,.aC M 0),(2,.aC O 0),(12,w),(13,.int .i64 8),(14,.int .i64 p.length),(15,.bool false)],h,ov,tF ?_,rfl,rfl,low,hn,hf,hg,by simpa [wI]using o,ho⟩
   rw[e8]
   clear low o hp hp'
   simp (disch:=omega)only[go_sem,vN,AP.f301L0]
 | d :: q, p, [], p', hp, hp', hpp, h, ov, acc, low, hn, hf, hg, o, ho, ha => by
   have:=Xy List.length hp
   rw[wh]at this
   rw[hp']at l8
   simp at l8 this;omega
 | d :: q, p, m :: r, p', hp, hp', hpp, h, ov, acc, low, hn, hf, hg, o, ho, ha => by
   have e8:=Xy List.length hp
   rw[wh]at e8
   simp only[vF,W9]at e8
   have xB:=k3.ext low
   obtain⟨gS,gM⟩:=k3.S_ low
   have rw1:=k3.sd.dg
   obtain⟨ad,a1,a2⟩:=rw1.xg
   have b1:=a1 p.length ⟨by omega,by rw[wh];omega⟩
   have b2:=a2 h xB p.length d (by rw[hp];simp)
   obtain⟨cd,c1,c2⟩:=k3.ox.rd.xg
   have d1:=c1 p.length ⟨by omega,by rw[l8];omega⟩
   have d2:=c2 h xB p.length m (by rw[hp',hpp];simp)
   have e4:(vH x)[4]?=some x.vd:=rfl
   have w1:(((p++[d]).length:Nat):Int)=(p.length:Int)+1:=by simp
   by_cases c:m=d
   · obtain⟨e',h',ov',r1,r2,r3,r4,r5,r6,r7,r8,r9⟩:=DI k3 l8 q (p++[d]) r (p'++[m]) (by rw[hp];simp) (by rw[hp'];simp) (by simp [hpp]) h ov acc low hn hf hg o ho (by simp;omega)
     rw[w1]at r1
     have eu:wI p.length (d::q) (m::r)=wI (p++[d]).length q r:=by rw[wI,if_pos c,vF];rfl
     rw[eu]
     refine⟨e',h',ov',tG ?_ r1,r2,r3,r4,r5,r6,r7,r8,r9⟩
     clear r1 r4 r8 r9 low o a1 a2 c1 c2 hp hp' xB
     generalize vH x=X at *
     simp (disch:=omega)only[go_sem,vN,AP.f301L0,b1,b2,gM,e4,d1,d2,J9 c]
   · obtain⟨v',h1,p1,p2,p3,p4,p5,p6⟩:=o.push (by have:=k3.fG;omega) (z:=8) (m:=1) (by omega) (by omega) [.int .i64 p.length] rfl rfl (by simp [roomy];omega)
     have ea:ints acc++[.int .i64 p.length]=ints (acc++[(p.length:Int)]):=by simp [ints,I]
     have el:acc.length+1=(acc++[(p.length:Int)]).length:=by simp
     rw[ea,el]at p2
     have sv:=p2.sc
     have cv:=xm sv
     have hO:=h.lt _ _ hg
     have oO:ov.id?≠some O:=fun q2=>by have:=ho O q2;have:=k3.ON;omega
     have g1:h1.get O=some (vH {y with vb:=ov}):=by rw[p5 O oO hO];exact hg
     obtain⟨h2,eh2⟩:∃g,g=h1.set O (vH {y with vb:=v'}):=⟨_,rfl⟩
     have st:ur h1 O 5 1 [v'] (some (vH {y with vb:=ov}))=some h2:=by rw[uK (by have:=k3.fO;omega) (by show 5<9;omega) sv,eh2];rfl
     have g2:h2.get O=some (vH {y with vb:=v'}):=by rw[eh2,vP rfl,g1];rfl
     have vj:∀j,v'.id?=some j→j=h.next+1:=fun j q2=>by rw[p6]at q2;exact(uS q2).symm
     obtain⟨e',h',ov',r1,r2,r3,r4,r5,r6,r7,r8,r9⟩:=DI k3 l8 q (p++[d]) r (p'++[m]) (by rw[hp];simp) (by rw[hp'];simp) (by simp [hpp]) h2 v' (acc++[(p.length:Int)])
      (fun i c c2 q3=>by have:=G.lt _ _ q3;rw[eh2,vL c2,p5 i (fun q2=>by have:=ho i q2;omega) (by omega)];exact low i c c2 q3) (by rw[eh2];simp;omega) (by rw[eh2];simp [p3,hf]) g2
      (p2.mono (by rw[eh2];simp) fun i q2=>by have:=vj i q2;rw[eh2,vL (by omega)]) (fun j q2=>by have:=vj j q2;omega) (by simp;omega)
     rw[w1]at r1
     have eu:acc++wI p.length (d::q) (m::r)=(acc++[(p.length:Int)])++wI (p++[d]).length q r:=by rw[wI,if_neg c,vF];simp
     rw[eu]
     refine⟨e',h',ov',tG ?_ r1,r2,r3,r4,r5,r6,r7,r8,r9⟩
     have e5:(vH {y with vb:=ov})[5]?=some ov:=rfl
     clear r1 r4 r8 r9 low o a1 a2 c1 c2 hp hp' xB p2 p5
     generalize vH x=X at *
     generalize vH {y with vb:=ov}=Y1 at *
     generalize vH {y with vb:=v'}=Y2 at *
     simp (disch:=omega)only[go_sem,vN,AP.f301L0,b1,b2,gM,e4,d1,d2,K3 c,hg,e5,p1,g1,cv,st]
def xL (L:List wR) (ms:List Int):List Int:=wI 0 (vY L) ms
theorem Fe:AP.f301.body=.seq (at_ 0 AP.f301.body) (.seq (at_ 1 AP.f301.body) (.seq (at_ 2 AP.f301.body) (.seq (at_ 3 AP.f301.body) (DO 4 AP.f301.body)))):=rfl
theorem Ja {B G:H} {S M O:Nat} {v w:AV} {l:List wc} {x y:wJ} (k3:Jh B G S M O v w l x) (sv:v.sc=true) (l8:x.m.wS.length=8) (gO:G.get O=some (vH y)) (y0:y.vb=.aQ):
 ∃ h' ov ow acc, aS AP.A 301 [.aC S 0, .aC M 0, .aC O 0] G = some (.bool (decide (0 < (xL (l.map (·.1)) x.m.wS).length)), h') ∧ (∀ i c, i ≠ O → G.get i = some c → h'.get i = some c) ∧ G.next ≤ h'.next ∧ h'.floor = G.floor ∧
   h'.get O=some (vH {y with m:={y.m with kind:=2},vb:=ov,vf:=ow})∧wo 1 h' ov (xL (l.map (·.1)) x.m.wS).length (ints (xL (l.map (·.1)) x.m.wS))∧wo 2 h' ow acc.length (wO acc)∧acc.map (·.1)=w9 (l.map (·.1)) (xL (l.map (·.1)) x.m.wS)∧
   (∀j,ov.id?=some j→G.next≤j)∧(∀j,ow.id?=some j→G.next≤j∧ov.id?≠some j)∧∀z∈acc,z.1.2.length=4∧∃j,z.2=.aD j 0 4 1∧h'.get j=some (ints z.1.2)∧G.next≤j∧ow.id?≠some j∧ov.id?≠some j∧h'.floor≤j:=by
 obtain⟨e',h1,ov,r1,r2,r3,r4,r5,r6,r7,r8,r9⟩:=DI (y:=y) k3 l8 (vY (l.map (·.1))) [] x.m.wS [] rfl rfl rfl G .aQ [] (fun _ _ _ q=>q) (u6 _) rfl (by rw[gO,←y0]) wo.nil (fun j q=>by cases q) (u6 _)
 have r1':Lp AP.A [0,1,2,12,13,14] AP.f301L0 [(0,.aC S 0),(1,.aC M 0),(2,.aC O 0),(12,w),(13,.int .i64 8),(14,.int .i64 0)] G=some (.exit 0,e',h1):=r1
 have r8':wo 1 h1 ov (xL (l.map (·.1)) x.m.wS).length (ints (xL (l.map (·.1)) x.m.wS)):=r8
 obtain⟨U,hU⟩:∃U,U=xL (l.map (·.1)) x.m.wS:=⟨_,rfl⟩
 have Ul:U.length≤8:=by rw[hU];have:=zB (vY (l.map (·.1))) x.m.wS 0;rw[wh]at this;exact this
 have Um:yE U=true:=by rw[hU];exact zC _ _ 0 none (by rw[wh];omega) fun q hq=>by cases hq
 rw[←hU]at r8' ⊢
 have fG:=k3.fG
 have fO:=k3.fO
 have ON:=k3.ON
 have x1:=k3.ext r4
 obtain⟨gS1,_⟩:=k3.S_ r4
 have ld:ji false w=some (.int .i64 8):=by
  have:=k3.sd.dg.len
  rw[pP,wh]at this
  exact this
 obtain⟨h2,eh2⟩:∃g,g=h1.set O (vH {y with m:={y.m with kind:=2},vb:=ov}):=⟨_,rfl⟩
 have st2:ur h1 O 0 1 [.int .i64 2] (some (vH {y with vb:=ov}))=some h2:=by rw[uK (by omega) (by show 0<9;omega) rfl,eh2];rfl
 have g2:h2.get O=some (vH {y with m:={y.m with kind:=2},vb:=ov}):=by rw[eh2,vP rfl,r7];rfl
 have n2:h2.next=h1.next:=by rw[eh2];simp
 have f2:h2.floor=G.floor:=by rw[eh2];simp [r6]
 have low2:∀i c,i≠O→G.get i=some c→h2.get i=some c:=fun i c c2 q=>by rw[eh2,vL c2];exact r4 i c c2 q
 have x2:=k3.ext low2
 obtain⟨gS2,_⟩:=k3.S_ low2
 have o2:wo 1 h2 ov U.length (ints U):=r8'.mono (by rw[eh2];simp) fun i q=>by have:=r9 i q;rw[eh2,vL (by omega)]
 have rdU:Rd h2 ov (ints U):=by
  have:=o2.rd
  exact⟨by rw[pP];exact this.1,this.2.2⟩
 obtain⟨ow,h3,acc,k4,e4,q4,b4⟩:=Jz h2 (by omega) v ov l U sv (by have:=k3.sd.len;omega) (k3.sd.rd.mono fun i c q=>x2 i c q) (fun z hz=>⟨(k3.sd.ok z hz).1.mono x2,(k3.sd.ok z hz).2⟩) rdU (by omega) (by rw[k3.sd.fo,Um];rfl)
 have n3:=e4.nx
 have f3:=e4.fl
 have s4:=e4.own.sc
 have c4:=xm s4
 have g3:=e4.ext _ _ g2
 obtain⟨h4,eh4⟩:∃g,g=h3.set O (vH {y with m:={y.m with kind:=2},vb:=ov,vf:=ow}):=⟨_,rfl⟩
 have st4:ur h3 O 6 1 [ow] (some (vH {y with m:={y.m with kind:=2},vb:=ov}))=some h4:=by rw[uK (by omega) (by show 6<9;omega) s4,eh4];rfl
 have g4:h4.get O=some (vH {y with m:={y.m with kind:=2},vb:=ov,vf:=ow}):=by rw[eh4,vP rfl,g3];rfl
 have f4:h4.floor=G.floor:=by rw[eh4];simp;omega
 have n4:h4.next=h3.next:=by rw[eh4];simp
 have low4:∀i c,i≠O→G.get i=some c→h4.get i=some c:=fun i c c2 q=>by rw[eh4,vL c2];exact e4.ext _ _ (low2 i c c2 q)
 have ov4:wo 1 h4 ov U.length (ints U):=by
  obtain⟨a,⟨b1,b2⟩|⟨j,b1,b2,b3,b4'⟩⟩:=o2
  · exact⟨a,.inl ⟨b1,b2⟩⟩
  · have:=r9 j (by rw[b1];rfl)
    exact⟨a,.inr ⟨j,b1,by rw[eh4,vL (by omega)];exact e4.ext _ _ b2,by omega,b4'⟩⟩
 have ow4:wo 2 h4 ow acc.length (wO acc):=e4.own.mono (by rw[eh4];simp) fun i q=>by have:=e4.ge i q;rw[eh4,vL (by omega)]
 have r1c:aM (aS AP.A) bB (at_ 1 AP.f301.body) [(0,.aC S 0),(1,.aC M 0),(2,.aC O 0)] G=some (.normal,[(0,.aC S 0),(2,.aC O 0)],h1):=by
  have gS:=k3.gS
  clear r1 r4 r8 r9 r8' x1 x2 low2 low4 o2 rdU e4 b4 ov4 ow4
  simp (disch:=omega)only[go_sem,vN,AP.f301,wM,wD,gS,ld,sF,r1',r2,r3]
 have b3c:aM (aS AP.A) bB (at_ 3 AP.f301.body) [(0,.aC S 0),(2,.aC O 0)] h2=some (.normal,[(2,.aC O 0)],h4):=by
  have e5:(vH {y with m:={y.m with kind:=2},vb:=ov})[5]?=some ov:=rfl
  have tv:List.take 1 [v,w]=[v]:=rfl
  clear r1 r4 r8 r9 r8' x1 x2 low2 low4 o2 rdU e4 b4 ov4 ow4 r1c r1'
  generalize vH {y with m:={y.m with kind:=2},vb:=ov}=Y1 at *
  generalize vH {y with m:={y.m with kind:=2},vb:=ov,vf:=ow}=Y2 at *
  simp (disch:=omega)only[go_sem,vN,AP.f301,wM,wD,gS2,CA,wL,tv,Xf,Xq,g2,e5,k4,g3,c4,st4]
 refine⟨h4,ov,ow,acc,tT (fn:=AP.f301) (h2:=h4) (e:=[(6,.bool (decide (0<U.length)))]) (vs:=[.bool (decide (0<U.length))]) rfl rfl rfl ?_ rfl,low4,by omega,f4,g4,ov4,ow4,q4,r9,fun j q=> ?_,fun z hz=> ?_⟩
 · rw[Fe]
   have b0:aM (aS AP.A) bB (at_ 0 AP.f301.body) (params 0 [.aC S 0,.aC M 0,.aC O 0]) G=some (.normal,[(0,.aC S 0),(1,.aC M 0),(2,.aC O 0)],G):=by
    simp (disch:=omega)only[go_sem,vN,AP.f301,wD]
   have b2:aM (aS AP.A) bB (at_ 2 AP.f301.body) [(0,.aC S 0),(2,.aC O 0)] h1=some (.normal,[(0,.aC S 0),(2,.aC O 0)],h2):=by
    clear r1 r4 r8 r9 r8' x1 x2 low2 low4 o2 rdU e4 b4 ov4 ow4 r1c r1' b3c
    generalize vH {y with vb:=ov}=Y1 at *
    simp (disch:=omega)only[go_sem,vN,AP.f301,wM,wD,r7,st2]
   rw[rZ,b0,sY,rZ,r1c,sY,rZ,b2,sY,rZ,b3c,sY]
   have lu:=ov4.rd.len
   have e5:(vH {y with m:={y.m with kind:=2},vb:=ov,vf:=ow})[5]?=some ov:=rfl
   clear r1 r4 r8 r9 r8' x1 x2 low2 low4 o2 rdU e4 b4 ov4 ow4 r1c r1' b3c b0 b2
   generalize vH {y with m:={y.m with kind:=2},vb:=ov,vf:=ow}=Y1 at *
   by_cases c:0<U.length<;>simp (disch:=omega)only[go_sem,vN,AP.f301,yK,yL,g4,e5,lu]
 · have:=e4.ge j q
   refine⟨by omega,fun q2=> ?_⟩
   have:=(o2.lt q2).2
   omega
 · obtain⟨j,a1,a2,a3,a4,a5⟩:=(b4 z hz).ex
   refine⟨(b4 z hz).l4,j,a1, ?_,by omega,a4,fun q2=> ?_,by omega⟩
   · rw[eh4,vL (by omega)];exact a2
   · have:=(o2.lt q2).2
     omega
def xD (L:List wR) (bs:List GF):List ByteArray:=(bs.filter fun b=> !yJ L b).map (·.1)
theorem Ip (L:List wR) (b:GF) (bs:List GF):xD L (b::bs)=if yJ L b then xD L bs else b.1::xD L bs:=by
 unfold xD
 rw[List.filter_cons]
 cases yJ L b<;>rfl
theorem Gt (a b:List ByteArray):wW (a++b)=wW a++wW b:=by simp [wW]
theorem DE {B G : H} {S M O : Nat} {v w : AV} {l : List wc} {x y : wJ} (k3 : Jh B G S M O v w l x) (fl6 : x.fs.length ≤ 6) (fv : ∀ b ∈ x.m.vR, xn b.2 = true) : ∀ (q p : List xx), x.fs = p ++ q → ∀ (h : H) (ov : AV) (acc : List ByteArray), (∀ i c, i ≠ O → G.get i = some c → h.get i = some c) → G.next ≤ h.next → h.floor = G.floor → h.get O = some (vH { y with vn := ov }) →
 wo 1 h ov acc.length (wW acc)→(∀j,ov.id?=some j→G.next≤j)→acc.length≤p.length→
 ∃ e' h' ov', Lp AP.A [0, 1, 2, 15, 16] AP.f302L0 [(0, .aC S 0), (1, .aC M 0), (2, .aC O 0), (15, .int .i64 x.fs.length), (16, .int .i64 p.length)] h = some (.exit 0, e', h') ∧ look e' 2 = .aC O 0 ∧
   (∀i c,i≠O→G.get i=some c→h'.get i=some c)∧G.next≤h'.next∧h'.floor=G.floor∧h'.get O=some (vH {y with vn:=ov'})∧wo 1 h' ov' (acc++xD (l.map (·.1)) (q.map (·.1))).length (wW (acc++xD (l.map (·.1)) (q.map (·.1))))∧∀j,ov'.id?=some j→G.next≤j
 | [], p, hp, h, ov, acc, low, hn, hf, hg, o, ho, ha => by
   rw[Xe]at hp;subst hp
   refine⟨[(0,.aC S 0),(1,.aC M 0),(2,.aC O 0),(15,.int .i64 x.fs.length),(16,.int .i64 x.fs.length),(17,.bool false)],h,ov,tF ?_,rfl,low,hn,hf,hg,by simpa [xD]using o,ho⟩
   clear low o
   simp (disch:=omega)only[go_sem,vN,AP.f302L0]
 | b :: q, p, hp, h, ov, acc, low, hn, hf, hg, o, ho, ha => by
   have hlen:x.fs.length=p.length+(q.length+1):=by rw[hp];simp
   have hb:x.fs[p.length]?=some b:=by rw[hp];simp
   have hm:=vi hb
   have xB:=k3.ext low
   obtain⟨gS,gM⟩:=k3.S_ low
   have fG:=k3.fG
   have fO:=k3.fO
   have ON:=k3.ON
   obtain⟨ad,a1,a2,a4,a3⟩:=k3.ox.rf.rd.at_
   have hI:(0:Int)≤(p.length:Int)∧(p.length:Int)<x.fs.length:=⟨by omega,by omega⟩
   have b1:=a1 _ hI
   have q0:=a2 p.length 0 0 hI
   have q1:=a2 p.length 0 1 hI
   simp only[vk]at q0 q1
   have l0:∀g,Ext h g→bU false 1 (ad p.length 0) g=some (.str b.1.1):=fun g hg'=>(a3 g fun i c q=>hg' _ _ (xB i c q)).1 p.length 0 _ hI (by
    rw[xI,show wO x.fs=x.fs.flatMap IB from rfl,yS yr hb (by omega)];rfl)
   have l1:∀g,Ext h g→bU false 1 (ad p.length 1) g=some b.2:=fun g hg'=>(a3 g fun i c q=>hg' _ _ (xB i c q)).1 p.length 1 _ hI (by
    rw[xI,show wO x.fs=x.fs.flatMap IB from rfl,yS yr hb (by omega)];rfl)
   obtain⟨h1,k1,x1,f1,n1⟩:=LD h (by omega) S v w l (k3.sd.mono xB) gS (ad p.length 0) b.1 b.2 (fun g=>a4 p.length 0 g hI) _ _ q0 q1 l0 l1 ((k3.ox.rf.vec b hm).1.mono fun i c q=>xB i c q) (fv b.1 (by rw[←k3.ox.hf];exact Xl.2 ⟨b,hm,rfl⟩))
   have e6:(vH x)[6]?=some x.vf:=rfl
   have w1:(((p++[b]).length:Nat):Int)=(p.length:Int)+1:=by simp
   have o1:wo 1 h1 ov acc.length (wW acc):=by
    obtain⟨a,⟨b1,b2⟩|⟨j,b1,b2,b3,b4⟩⟩:=o
    · exact⟨a,.inl ⟨b1,b2⟩⟩
    · exact⟨a,.inr ⟨j,b1,x1 _ _ b2,by omega,b4⟩⟩
   have hg1:=x1 _ _ hg
   have low1:∀i c,i≠O→G.get i=some c→h1.get i=some c:=fun i c c2 q=>x1 _ _ (low i c c2 q)
   rw[Xk,Ip]
   cases hk:yJ (l.map (·.1)) b.1 with
   | true =>
     rw[hk]at k1
     rw[if_pos rfl]
     obtain⟨e',h',ov',r1,r2,r3,r4,r5,r6,r7,r8⟩:=DE k3 fl6 fv q (p++[b]) (by rw[hp];simp) h1 ov acc low1 (by omega) (by omega) hg1 o1 ho (by simp;omega)
     rw[w1]at r1
     refine⟨e',h',ov',tG ?_ r1,r2,r3,r4,r5,r6,r7,r8⟩
     clear r1 r3 r7 r8 low low1 o o1 a1 a2 a3 a4 l0 l1 hp xB x1
     generalize vH x=X at *
     simp (disch:=omega)only[go_sem,vN,AP.f302L0,gM,e6,b1,k1]
   | false =>
     rw[hk]at k1
     rw[if_neg (by decide)]
     obtain⟨v',h2,p1,p2,p3,p4,p5,p6⟩:=o1.push (by omega) (z:=16) (m:=1) (by omega) (by omega) [.str b.1.1] rfl rfl (by simp [roomy];omega)
     have ea:wW acc++[.str b.1.1]=wW (acc++[b.1.1]):=by rw[Gt];rfl
     have el:acc.length+1=(acc++[b.1.1]).length:=by simp
     rw[ea,el]at p2
     have sv:=p2.sc
     have cv:=xm sv
     have hO:=h1.lt _ _ hg1
     have oO:ov.id?≠some O:=fun q2=>by have:=ho O q2;omega
     have g2:h2.get O=some (vH {y with vn:=ov}):=by rw[p5 O oO hO];exact hg1
     obtain⟨h3,eh3⟩:∃g,g=h2.set O (vH {y with vn:=v'}):=⟨_,rfl⟩
     have st:ur h2 O 7 1 [v'] (some (vH {y with vn:=ov}))=some h3:=by rw[uK (by omega) (by show 7<9;omega) sv,eh3];rfl
     have g3:h3.get O=some (vH {y with vn:=v'}):=by rw[eh3,vP rfl,g2];rfl
     have vj:∀j,v'.id?=some j→j=h1.next+1:=fun j q2=>by rw[p6]at q2;exact(uS q2).symm
     obtain⟨e',h',ov',r1,r2,r3,r4,r5,r6,r7,r8⟩:=DE k3 fl6 fv q (p++[b]) (by rw[hp];simp) h3 v' (acc++[b.1.1])
      (fun i c c2 q3=>by have:=G.lt _ _ q3;rw[eh3,vL c2,p5 i (fun q2=>by have:=ho i q2;omega) (by omega)];exact low1 i c c2 q3) (by rw[eh3];simp;omega) (by rw[eh3];simp;omega) g3
      (p2.mono (by rw[eh3];simp) fun i q2=>by have:=vj i q2;rw[eh3,vL (by omega)]) (fun j q2=>by have:=vj j q2;omega) (by simp;omega)
     rw[w1]at r1
     rw[XF,List.singleton_append]at r7
     refine⟨e',h',ov',tG ?_ r1,r2,r3,r4,r5,r6,r7,r8⟩
     have e7:(vH {y with vn:=ov})[7]?=some ov:=rfl
     have gM1:=x1 _ _ gM
     have m0:=l0 h1 x1
     clear r1 r3 r7 r8 low low1 o o1 a1 a2 a3 a4 l0 l1 hp xB x1 p2 p5
     generalize vH x=X at *
     generalize vH {y with vn:=ov}=Y1 at *
     generalize vH {y with vn:=v'}=Y2 at *
     simp (disch:=omega)only[go_sem,vN,AP.f302L0,gM,e6,b1,k1,hg1,e7,gM1,q0,m0,p1,g2,cv,st]
theorem Sn {B G:H} {S M O:Nat} {v w:AV} {l:List wc} {x y:wJ} (k3:Jh B G S M O v w l x) (fl6:x.fs.length≤6) (fv:∀b∈x.m.vR,xn b.2=true) (gO:G.get O=some (vH y)) (y0:y.vn=.aQ):
 ∃ h' ov, aS AP.A 302 [.aC S 0, .aC M 0, .aC O 0] G = some (.bool (decide (0 < (xD (l.map (·.1)) x.m.vR).length)), h') ∧ (∀ i c, i ≠ O → G.get i = some c → h'.get i = some c) ∧ G.next ≤ h'.next ∧ h'.floor = G.floor ∧
   h'.get O=some (vH {y with m:={y.m with kind:=3},vn:=ov})∧wo 1 h' ov (xD (l.map (·.1)) x.m.vR).length (wW (xD (l.map (·.1)) x.m.vR))∧∀j,ov.id?=some j→G.next≤j:=by
 have fO:=k3.fO
 obtain⟨h1,eh1⟩:∃g,g=G.set O (vH {y with m:={y.m with kind:=3}}):=⟨_,rfl⟩
 have B0:ur G O 0 1 [.int .i64 3] (some (vH y))=some h1:=by rw[uK (by omega) (by show 0<9;omega) rfl,eh1];rfl
 have g1:h1.get O=some (vH {y with m:={y.m with kind:=3}}):=by rw[eh1,vP rfl,gO];rfl
 have low1:∀i c,i≠O→G.get i=some c→h1.get i=some c:=fun i c c2 q=>by rw[eh1,vL c2];exact q
 obtain⟨_,gM1⟩:=k3.S_ low1
 obtain⟨e',h',ov,r1,r2,r3,r4,r5,r6,r7,r8⟩:=DE (y:={y with m:={y.m with kind:=3}}) k3 fl6 fv x.fs [] rfl h1 .aQ [] low1 (by rw[eh1];simp) (by rw[eh1];simp) (by rw[g1,←y0]) wo.nil (fun j q=>by cases q) (u6 _)
 have r1':Lp AP.A [0,1,2,15,16] AP.f302L0 [(0,.aC S 0),(1,.aC M 0),(2,.aC O 0),(15,.int .i64 x.fs.length),(16,.int .i64 0)] h1=some (.exit 0,e',h'):=r1
 rw[List.nil_append,k3.ox.hf]at r7
 refine⟨h',ov,tT (fn:=AP.f302) (h2:=h') (e:=[(6,.bool (decide (0<(xD (l.map (·.1)) x.m.vR).length)))]) (vs:=[.bool (decide (0<(xD (l.map (·.1)) x.m.vR).length))]) rfl rfl rfl ?_ rfl,r3,r4,r5,r6,r7,r8⟩
 have lf:=k3.ox.rf.rd.len
 have lw:=r7.rd.len
 have e6:(vH x)[6]?=some x.vf:=rfl
 have e7:(vH {y with m:={y.m with kind:=3},vn:=ov})[7]?=some ov:=rfl
 have r6':h'.get O=some (vH {y with m:={y.m with kind:=3},vn:=ov}):=r6
 clear r1 r3 r7 r8 low1 eh1 r6
 generalize (xD (l.map (·.1)) x.m.vR).length=N at *
 generalize vH x=X at *
 generalize vH y=Y at *
 generalize vH {y with m:={y.m with kind:=3},vn:=ov}=Y2 at *
 by_cases c:0<N<;>simp (disch:=omega)only[go_sem,vN,AP.f302,gO,B0,gM1,e6,lf,sF,r1',r2,r6',e7,lw]
def zk (L:List wR) (ns:List ByteArray):List wR:=ns.filterMap fun s=>if(v9 s L).2 then L[(v9 s L).1]? else none
theorem Ks (L:List wR) (s:ByteArray) (ns:List ByteArray):zk L (s::ns)=(match (if(v9 s L).2 then L[(v9 s L).1]? else none)with|some e=>[e]|none=>[])++zk L ns:=by
 unfold zk
 rw[List.filterMap_cons]
 split<;>rename_i h<;>rw[h]<;>rfl
theorem Dt {B G : H} {S M O : Nat} {v w : AV} {l : List wc} {x y : wJ} (k3 : Jh B G S M O v w l x) (nl6 : x.m.names.length ≤ 6) : ∀ (q p : List ByteArray), x.m.names = p ++ q → ∀ (h : H) (ov : AV) (acc : List wc), (∀ i c, i ≠ O → G.get i = some c → h.get i = some c) → G.next ≤ h.next → h.floor = G.floor → h.get O = some (vH { y with ve := ov }) →
 WE G.next h ov acc→acc.length≤p.length→
 ∃ e' h' ov' acc', Lp AP.A [0, 2, 17, 18, 19] AP.f303L0 [(0, .aC S 0), (2, .aC O 0), (17, x.vn), (18, .int .i64 x.m.names.length), (19, .int .i64 p.length)] h = some (.exit 0, e', h') ∧ look e' 2 = .aC O 0 ∧
   (∀i c,i≠O→G.get i=some c→h'.get i=some c)∧G.next≤h'.next∧h'.floor=G.floor∧h'.get O=some (vH {y with ve:=ov'})∧WE G.next h' ov' acc'∧acc'.map (·.1)=acc.map (·.1)++zk (l.map (·.1)) q∧acc'.length≤x.m.names.length
 | [], p, hp, h, ov, acc, low, hn, hf, hg, o, ha => by
   rw[Xe]at hp
   have e:x.m.names.length=p.length:=by rw[hp]
   refine⟨[(0,.aC S 0),(2,.aC O 0),(17,x.vn),(18,.int .i64 x.m.names.length),(19,.int .i64 p.length),(20,.bool false)],h,ov,acc,tF ?_,rfl,low,hn,hf,hg,o,by simp [zk],by omega⟩
   rw[e]
   clear low o
   simp (disch:=omega)only[go_sem,vN,AP.f303L0]
 | s :: q, p, hp, h, ov, acc, low, hn, hf, hg, o, ha => by
   have hlen:x.m.names.length=p.length+(q.length+1):=by rw[hp];simp
   have xB:=k3.ext low
   obtain⟨gS,gM⟩:=k3.S_ low
   have fG:=k3.fG
   have fO:=k3.fO
   have ON:=k3.ON
   obtain⟨nd,a1,_,a3⟩:=k3.ox.rn.AH
   have b1:=a1 p.length ⟨by omega,by omega⟩
   have b2:=a3 h xB p.length s (by rw[hp];simp)
   have sd:=k3.sd.mono xB
   have k1:=Mr h S 0 v gS rfl l sd.len sd.rd (fun x hx=>(sd.ok x hx).2) s (Ku (xS sd.fo))
   have w1:(((p++[s]).length:Nat):Int)=(p.length:Int)+1:=by simp
   rw[Ks]
   cases hp2:(v9 s (l.map (·.1))).2 with
   | false =>
     rw[hp2]at k1
     rw[if_neg (by decide)]
     obtain⟨e',h',ov',acc',r1,r2,r3,r4,r5,r6,r7,r8,r9⟩:=Dt k3 nl6 q (p++[s]) (by rw[hp];simp) h ov acc low hn hf hg o (by simp;omega)
     rw[w1]at r1
     refine⟨e',h',ov',acc',tG ?_ r1,r2,r3,r4,r5,r6,r7,r8,r9⟩
     clear r1 r3 r7 r8 low o a1 a3 hp xB sd
     generalize (v9 s (l.map (·.1))).1=K at *
     simp (disch:=omega)only[go_sem,vN,AP.f303L0,b1,b2,Xq,k1]
   | true =>
     rw[hp2]at k1
     rw[if_pos rfl]
     have lt:=Am _ _ hp2
     rw[Xd]at lt
     obtain⟨z,hz⟩:∃z,l[(v9 s (l.map (·.1))).1]?=some z:=⟨l[(v9 s (l.map (·.1))).1],by simp⟩
     have hz':(l.map (·.1))[(v9 s (l.map (·.1))).1]?=some z.1:=by rw[vq,hz];rfl
     rw[hz']
     have hm:=vi hz
     obtain⟨ok,sc⟩:=sd.ok z hm
     have fz:=Al sd.fo z.1 (Xl.2 ⟨z,hm,rfl⟩)
     obtain⟨ad,c1,c2⟩:=sd.rd.DY
     obtain⟨pe,lz⟩:=c2 h (Ext.refl h) _ z hz
     have d1:=c1 (v9 s (l.map (·.1))).1 ⟨by omega,by omega⟩
     obtain⟨h1,j,k2,gj,hj,x1,f1,n1⟩:=Ll h (by omega) z.1 z.2 sc ok fz.2.1
     have jn:=h1.lt _ _ gj
     obtain⟨E,hE⟩:∃E,E=vT z.1 (.aD j 0 4 1):=⟨_,rfl⟩
     have lE:E.length=9:=by rw[hE];rfl
     have cE:AV.aB E=true:=by rw[hE];exact yx rfl
     have fE:setFrom [.str ⟨#[]⟩,.bool false,.aQ,.int .i64 0,.int .i64 0,.int .i64 0,.str ⟨#[]⟩,.int .i64 0,.int .i64 0] 0 E=E:=by rw[hE];rfl
     have o1:WE G.next h1 ov acc:=o.mono (by omega) fun i c1 c2 c3=>by
      rcases c3 with c3|⟨y2,hy2,c3⟩
      · obtain⟨_,⟨b1,_⟩|⟨j2,b1,b2,_⟩⟩:=o.own
        · rw[b1]at c3;cases c3
        · rw[b1]at c3;obtain rfl:=uS c3;rw[b2];exact x1 _ _ b2
      · obtain⟨_,_,j2,b1,b2,_⟩:=o.el y2 hy2
        rw[b1]at c3;obtain rfl:=uS c3;rw[b2];exact x1 _ _ b2
     have hg1:=x1 _ _ hg
     obtain⟨v',h2,p1,p2,p3,p4,p5,p6⟩:=o1.own.push (by omega) (z:=104) (m:=1) (by omega) (by omega) E (by rw[lE]) cE (by simp [roomy];omega)
     have ea:vW acc++E=vW (acc++[((z.1,.aD j 0 4 1):wc)]):=by rw[AY,hE]
     have el:acc.length+1=(acc++[((z.1,.aD j 0 4 1):wc)]).length:=by simp
     rw[ea,el]at p2
     have sv:=p2.sc
     have cv:=xm sv
     have hO:=h1.lt _ _ hg1
     have oO:ov.id?≠some O:=fun q2=>by have:=o.ge O q2;omega
     have g2:h2.get O=some (vH {y with ve:=ov}):=by rw[p5 O oO hO];exact hg1
     obtain⟨h3,eh3⟩:∃g,g=h2.set O (vH {y with ve:=v'}):=⟨_,rfl⟩
     have st:ur h2 O 8 1 [v'] (some (vH {y with ve:=ov}))=some h3:=by rw[uK (by omega) (by show 8<9;omega) sv,eh3];rfl
     have g3:h3.get O=some (vH {y with ve:=v'}):=by rw[eh3,vP rfl,g2];rfl
     have vj:∀i,v'.id?=some i→i=h1.next+1:=fun i q2=>by rw[p6]at q2;exact(uS q2).symm
     have ovl:∀i,ov.id?=some i→i<h.next:=fun i q2=>(o.own.lt q2).2
     have w3:WE G.next h3 v' (acc++[(z.1,.aD j 0 4 1)]):=by
      refine⟨p2.mono (by rw[eh3];simp) fun i q2=>by have:=vj i q2;rw[eh3,vL (by omega)],fun i q2=>by have:=vj i q2;omega,fun y2 hy2=> ?_⟩
      rcases XI.1 hy2 with hy2|hy2
      · obtain⟨m1,m2,j2,t1,t2,t3,t4,t5⟩:=o1.el y2 hy2
        have:=h1.lt _ _ t2
        refine⟨m1,m2,j2,t1, ?_,t3,fun q2=>by have:=vj j2 q2;omega,by rw[eh3];simp;omega⟩
        rw[eh3,vL (by omega),p5 j2 t4 this];exact t2
      · obtain rfl:=XK.1 hy2
        refine⟨fz.2.2,fz.2.1,j,rfl, ?_,by omega,fun q2=>by have:=vj j q2;omega,by rw[eh3];simp;omega⟩
        rw[eh3,vL (by omega),p5 j (fun q2=>by have:=ovl j q2;omega) jn];exact gj
     obtain⟨e',h',ov',acc',r1,r2,r3,r4,r5,r6,r7,r8,r9⟩:=Dt k3 nl6 q (p++[s]) (by rw[hp];simp) h3 v' (acc++[(z.1,.aD j 0 4 1)])
      (fun i c c2 q3=>by have:=G.lt _ _ q3;rw[eh3,vL c2,p5 i (fun q2=>by have:=o.ge i q2;omega) (by omega)];exact x1 _ _ (low i c c2 q3)) (by rw[eh3];simp;omega) (by rw[eh3];simp;omega) g3 w3 (by simp;omega)
     rw[w1]at r1
     rw[Xo,XF]at r8
     refine⟨e',h',ov',acc',tG ?_ r1,r2,r3,r4,r5,r6,r7,r8,r9⟩
     have e8:(vH {y with ve:=ov})[8]?=some ov:=rfl
     rw[←hE]at k2
     have lz':bU true 9 (ad (v9 s (l.map (·.1))).1 0) h=some (.agg (vT z.1 z.2)):=lz
     clear r1 r3 r7 r8 r9 low o o1 a1 a3 hp xB sd c1 c2 pe lz ok hz hz' hm w3 p2 p5 x1 ea hE k3
     generalize (v9 s (l.map (·.1))).1=K at *
     generalize vT z.1 z.2=Z at *
     generalize vH {y with ve:=ov}=Y1 at *
     generalize vH {y with ve:=v'}=Y2 at *
     simp (disch:=omega)only[go_sem,vN,AP.f303L0,b1,b2,Xq,k1,hg,e8,gS,d1,lz',k2,lE,cE,fE,p1,g2,cv,st,hg1]
theorem Sm {B G:H} {S M O:Nat} {v w:AV} {l:List wc} {x y:wJ} (k3:Jh B G S M O v w l x) (nl6:x.m.names.length≤6) (gO:G.get O=some (vH y)) (y0:y.ve=.aQ):
 ∃ h' ov acc, aS AP.A 303 [.aC S 0, .aC M 0, .aC O 0] G = some (.bool (decide (0 < (zk (l.map (·.1)) x.m.names).length)), h') ∧ (∀ i c, i ≠ O → G.get i = some c → h'.get i = some c) ∧ G.next ≤ h'.next ∧ h'.floor = G.floor ∧
   h'.get O=some (vH {y with m:={y.m with kind:=4},ve:=ov})∧WE G.next h' ov acc∧acc.map (·.1)=zk (l.map (·.1)) x.m.names∧acc.length≤6:=by
 have fO:=k3.fO
 obtain⟨h1,eh1⟩:∃g,g=G.set O (vH {y with m:={y.m with kind:=4}}):=⟨_,rfl⟩
 have B0:ur G O 0 1 [.int .i64 4] (some (vH y))=some h1:=by rw[uK (by omega) (by show 0<9;omega) rfl,eh1];rfl
 have g1:h1.get O=some (vH {y with m:={y.m with kind:=4}}):=by rw[eh1,vP rfl,gO];rfl
 have low1:∀i c,i≠O→G.get i=some c→h1.get i=some c:=fun i c c2 q=>by rw[eh1,vL c2];exact q
 obtain⟨_,gM1⟩:=k3.S_ low1
 obtain⟨e',h',ov,acc,r1,r2,r3,r4,r5,r6,r7,r8,r9⟩:=Dt (y:={y with m:={y.m with kind:=4}}) k3 nl6 x.m.names [] rfl h1 .aQ [] low1 (by rw[eh1];simp) (by rw[eh1];simp) (by rw[g1,←y0]) ⟨wo.nil,fun j q=>(by cases q),fun z hz=>(by cases hz)⟩ (u6 _)
 have r1':Lp AP.A [0,2,17,18,19] AP.f303L0 [(0,.aC S 0),(2,.aC O 0),(17,x.vn),(18,.int .i64 x.m.names.length),(19,.int .i64 0)] h1=some (.exit 0,e',h'):=r1
 have r8':acc.map (·.1)=zk (l.map (·.1)) x.m.names:=r8
 have al:acc.length=(zk (l.map (·.1)) x.m.names).length:=by rw[←r8'];simp
 refine⟨h',ov,acc,tT (fn:=AP.f303) (h2:=h') (e:=[(6,.bool (decide (0<(zk (l.map (·.1)) x.m.names).length)))]) (vs:=[.bool (decide (0<(zk (l.map (·.1)) x.m.names).length))]) rfl rfl rfl ?_ rfl,r3,r4,r5,r6,r7,r8',by omega⟩
 have ln:=k3.ox.rn.Bb.len
 rw[wA]at ln
 have lw:=r7.own.rd.len
 rw[al]at lw
 have e7:(vH x)[7]?=some x.vn:=rfl
 have e8:(vH {y with m:={y.m with kind:=4},ve:=ov})[8]?=some ov:=rfl
 have r6':h'.get O=some (vH {y with m:={y.m with kind:=4},ve:=ov}):=r6
 clear r1 r3 r7 r8 r8' low1 eh1 r6 al r9
 generalize (zk (l.map (·.1)) x.m.names).length=N at *
 generalize vH x=X at *
 generalize vH y=Y at *
 generalize vH {y with m:={y.m with kind:=4},ve:=ov}=Y2 at *
 by_cases c:0<N<;>simp (disch:=omega)only[go_sem,vN,AP.f303,gO,B0,gM1,e7,ln,sF,r1',r2,r6',e8,lw]
theorem Iy (h:H) (k:Int):aS AP.A 277 [.int .i64 k] h=some (if k=0 then .fn 300 [] []else if k=1 then .fn 301 [] []else if k=2 then .fn 302 [] []else if k=3 then .fn 303 [] []else .eV,h):=by
 by_cases h0:k=0
 · rw[if_pos h0]
   refine uo (fn:=AP.f277) (h2:=h.dY) (e:=[(2,.fn 300 [] [])]) rfl rfl rfl ?_ rfl rfl
   simp (disch:=omega)only[go_sem,vN,AP.f277]
 by_cases h1:k=1
 · rw[if_neg h0,if_pos h1]
   refine uo (fn:=AP.f277) (h2:=h.dY) (e:=[(2,.fn 301 [] [])]) rfl rfl rfl ?_ rfl rfl
   simp (disch:=omega)only[go_sem,vN,AP.f277]
 by_cases h2:k=2
 · rw[if_neg h0,if_neg h1,if_pos h2]
   refine uo (fn:=AP.f277) (h2:=h.dY) (e:=[(2,.fn 302 [] [])]) rfl rfl rfl ?_ rfl rfl
   simp (disch:=omega)only[go_sem,vN,AP.f277]
 by_cases h3:k=3
 · rw[if_neg h0,if_neg h1,if_neg h2,if_pos h3]
   refine uo (fn:=AP.f277) (h2:=h.dY) (e:=[(2,.fn 303 [] [])]) rfl rfl rfl ?_ rfl rfl
   simp (disch:=omega)only[go_sem,vN,AP.f277]
 · rw[if_neg h0,if_neg h1,if_neg h2,if_neg h3]
   refine uo (fn:=AP.f277) (h2:=h.dY) (e:=[(2,.eV)]) rfl rfl rfl ?_ rfl rfl
   simp (disch:=omega)only[go_sem,vN,AP.f277]
def xK (L:List wR) (m:Ae):Option Ae:=
 if m.kind=0 then(if wG (vY L)=m.root then none else some ⟨1,m.dst,m.src,0,vY L,[],[],[],[]⟩)
 else if m.kind=1 then(if xL L m.wS=[]then none else some ⟨2,m.dst,m.src,0,[],xL L m.wS,w9 L (xL L m.wS),[],[]⟩)
 else if m.kind=2 then(if xD L m.vR=[]then none else some ⟨3,m.dst,m.src,0,[],[],[],xD L m.vR,[]⟩)
 else if m.kind=3 then(if zk L m.names=[]then none else some ⟨4,m.dst,m.src,0,[],[],[],[],zk L m.names⟩)
 else none
def zw:Ae:=⟨0,0,0,0,[],[],[],[],[]⟩
def w8 (L:List wR) (m:Ae):Ae×Bool×Int:=
 if xa L=true∧zE m=true then((xK L m).getD zw,(xK L m).isSome,0)else(zw,false,2200)
theorem Is (h:H):zS h vV:=⟨⟨rfl,fun s q=>(by cases q)⟩,⟨rfl,fun s q=>(by cases q)⟩,⟨⟨rfl,rfl,fun s q=>(by cases q)⟩,fun y hy=>(by cases hy)⟩,rfl,⟨rfl,fun s q=>(by cases q)⟩,⟨rfl,rfl,fun s q=>(by cases q)⟩,rfl,fun y hy=>(by cases hy),fun y hy=>(by cases hy),⟨rfl,rfl,rfl,rfl,rfl⟩,by decide,by decide,by decide,by decide,by decide,⟨fun s hs=>(by cases hs),fun s hs=>(by cases hs)⟩⟩
theorem It (B:Nat) (h:H):WM B h vV:=.d (.inl rfl) rfl rfl rfl rfl
structure VB (h h':H) (y:wJ):Prop where
 ok:zS h' y
 wm:WM h.next h' y
 ext:Ext h h'
 fl:h'.floor=h.floor
 nx:h.next≤h'.next
theorem E4 {h:H} {v:AV} {l:List Int} (o:wo 1 h v l.length (ints l)):Rd h v (ints l):=by
 have:=o.rd
 exact⟨by rw[pP];exact this.1,this.2.2⟩
theorem z9 (h:H):Rd h .aQ []:=⟨rfl,fun s q=>(by cases q)⟩
theorem CB (n:Nat) (h:H):xo n h .aQ 0 []:=⟨rfl,by simp,fun s q=>(by cases q)⟩
theorem E5 (h:H):ED h .aQ []:=⟨CB 2 h,fun y hy=>(by cases hy)⟩
theorem Kt {L:List wR} {ns:List ByteArray} {e:wR} (h:e∈zk L ns):e∈L:=by
 unfold zk at h
 obtain⟨s,_,hs⟩:=List.mem_filterMap.1 h
 split at hs
 · exact vi hs
 · cases hs
theorem Fj:AP.f240.body=.seq (at_ 0 AP.f240.body) (.seq (at_ 1 AP.f240.body) (.seq (at_ 2 AP.f240.body) (.seq (at_ 3 AP.f240.body) (.seq (at_ 4 AP.f240.body) (DO 5 AP.f240.body))))):=rfl
theorem Jq {h6 h7:H} {v w:AV} {R O M P f:Nat} {b:Bool} {y:wJ} {H5:H} (e6:H5.alloc [v,w]=h6) (sv:v.sc=true) (sw:w.sc=true) (gP:H5.get P=some [v]) (k:aS AP.A f [.aC H5.next 0,.aC M 0,.aC O 0] h6=some (.bool b,h7)) (gO:h7.get O=some (vH y)) (gR:h7.get R=some (vH vV)) (fR:h7.floor≤R) (cy:AV.aB (vH y)=true):
 ∃e,aM (aS AP.A) bB (DO 5 AP.f240.body) [(2,.aC P 0),(3,.aC M 0),(4,.aC R 0),(7,w),(9,.aC O 0),(10,.fn f [] [])] H5=some (.ret,e,if b then h7.set R (vH y)else h7.set R (vH vV))∧look e 4=.aC R 0∧look e 5=.bool b∧look e 6=.int .i64 0:=by
 have cw:=xm sw
 have tP:List.take 1 [v]=[v]:=rfl
 have K2:fJ 2 (.fn f [] []) .eV=some false:=rfl
 have z0:([.int .i64 0,.int .i64 0,.int .i64 0,.int .i64 0,.aQ,.aQ,.aQ,.aQ,.aQ]:List AV)=vH vV:=rfl
 have cz:AV.aB (vH vV)=true:=rfl
 have B0:ur h7 R 0 9 (vH vV) (some (vH vV))=some (h7.set R (vH vV)):=wH fR rfl rfl cz
 have st2:ur h7 R 0 9 (vH y) (some (vH vV))=some (h7.set R (vH y)):=wH fR rfl rfl cy
 have ly:(vH y).length=9:=rfl
 have ty:List.take 9 (vH y)=vH y:=rfl
 cases b with
 | false =>
   refine⟨[(4,.aC R 0),(5,.bool false),(6,.int .i64 0)], ?_,rfl,rfl,rfl⟩
   rw[if_neg (by decide)]
   generalize vH vV=Z at *
   generalize vH y=Y at *
   simp (disch:=omega)only[go_sem,vN,AP.f240,yK,yL,K2,gP,wZ,sv,sw,cw,e6,k,nQ,z0,gR,B0]
 | true =>
   refine⟨[(4,.aC R 0),(5,.bool true),(6,.int .i64 0)], ?_,rfl,rfl,rfl⟩
   rw[if_pos rfl]
   generalize vH vV=Z at *
   generalize vH y=Y at *
   simp (disch:=omega)only[go_sem,vN,AP.f240,yK,yL,K2,gP,wZ,sv,sw,cw,e6,k,nQ,gO,CA,wL,ly,ty,Xf,gR,st2]
set_option maxHeartbeats 8000000 in
theorem Mh (h : H) (hf : h.floor ≤ h.next) (v : AV) (l : List wc) (sv : v.sc = true) (hn : l.length < 1125899906842624) (rd : xo 9 h v l.length (vW l)) (hv : ∀ x ∈ l, xw h x ∧ x.2.sc = true) (x : wJ) (ox : zS h x) :
 ∃y h',aS AP.A 240 [.agg [v],.agg (vH x)] h=some (.bP [.agg (vH y),.bool (w8 (l.map (·.1)) x.m).2.1,.int .i64 (w8 (l.map (·.1)) x.m).2.2],h')∧y.m=(w8 (l.map (·.1)) x.m).1∧VB h h' y:=by
 obtain⟨h1,eh1⟩:∃g,g=h.alloc [v]:=⟨_,rfl⟩
 obtain⟨h2,eh2⟩:∃g,g=h1.alloc (vH x):=⟨_,rfl⟩
 obtain⟨h3,eh3⟩:∃g,g=h2.alloc (vH vV):=⟨_,rfl⟩
 have n1:h1.next=h.next+1:=by rw[eh1];simp
 have n2:h2.next=h.next+2:=by rw[eh2];simp [n1]
 have n3:h3.next=h.next+3:=by rw[eh3];simp [n2]
 have f3:h3.floor=h.floor:=by rw[eh3,eh2,eh1];simp
 have x3:Ext h h3:=by rw[eh3,eh2,eh1];exact(((Ext.refl h).alloc _).alloc _).alloc _
 have gP:h3.get h.next=some [v]:=by rw[eh3,vS (by omega),eh2,vS (by omega),eh1,vO rfl]
 have gM:h3.get (h.next+1)=some (vH x):=by rw[eh3,vS (by omega),eh2,vO (by omega)]
 have gR:h3.get (h.next+2)=some (vH vV):=by rw[eh3,vO (by omega)]
 have cx:=xG ox
 have lx:(vH x).length=9:=rfl
 have b0:aM (aS AP.A) bB (at_ 0 AP.f240.body) (params 0 [.agg [v],.agg (vH x)]) h=some (.normal,[(2,.aC h.next 0),(3,.aC (h.next+1) 0),(4,.aC (h.next+2) 0)],h3):=by
  have z:h2.alloc [.int .i64 0,.int .i64 0,.int .i64 0,.int .i64 0,.aQ,.aQ,.aQ,.aQ,.aQ]=h3:=eh3.symm
  clear ox rd hv x3
  generalize vH x=X at *
  simp (disch:=omega)only[go_sem,vN,AP.f240,wD,sv,←eh1,lx,cx,n1,←eh2,n2,z]
 obtain⟨w,h4,k1,g4⟩:=GL h3 (by omega) v l sv hn (rd.mono fun i c q=>x3 i c q) (fun z hz=>⟨(hv z hz).1.mono x3,(hv z hz).2⟩)
 have x4:=g4.ext
 have n4:=g4.nx
 have f4:=g4.fl
 have sw:=g4.own.sc
 have gP4:=x4 _ _ gP
 have gM4:=x4 _ _ gM
 have gR4:=x4 _ _ gR
 have xh4:Ext h h4:=fun i c q=>x4 _ _ (x3 _ _ q)
 have b1:aM (aS AP.A) bB (at_ 1 AP.f240.body) [(2,.aC h.next 0),(3,.aC (h.next+1) 0),(4,.aC (h.next+2) 0)] h3=some (.normal,[(2,.aC h.next 0),(3,.aC (h.next+1) 0),(4,.aC (h.next+2) 0),(7,w),(8,.int .i64 (if xa (l.map (·.1))then 0 else 1600))],h4):=by
  clear ox rd hv x3 x4 g4 xh4
  generalize (if xa (l.map (·.1))=true then(0:Int)else 1600)=E at *
  simp (disch:=omega)only[go_sem,vN,AP.f240,wM,wD,gP,wZ,k1]
 have ox4:=ox.mono xh4
 have km:=RZ h4 x ox4
 have tX:List.take 9 (vH x)=vH x:=rfl
 by_cases ok:xa (l.map (·.1))=true∧zE x.m=true
 case neg=>
  have eR:w8 (l.map (·.1)) x.m=(zw,false,2200):=by unfold w8;rw[if_neg ok]
  rw[eR]
  obtain⟨h5,eh5⟩:∃g,g=h4.set (h.next+2) (vH vV):=⟨_,rfl⟩
  have e5:h5=h4:=by rw[eh5];exact H.jI gR4
  have st:ur h4 (h.next+2) 0 9 (vH vV) (some (vH vV))=some h4:=by rw[wH (n:=9) (by omega) rfl rfl rfl,←eh5,e5]
  refine⟨vV,h4,tT (fn:=AP.f240) (h2:=h4) (e:=[(4,.aC (h.next+2) 0),(5,.bool false),(6,.int .i64 2200)]) (vs:=[.agg (vH vV),.bool false,.int .i64 2200]) rfl rfl rfl ?_ (by simp only[AP.f240,cM,nk,mU,lF,ne_eq,Nat.reduceEqDiff,not_false_eq_true,qQ,gR4,tu];rfl),rfl,Is h4,It _ _,xh4,by omega,by omega⟩
  rw[Fj,rZ,b0,sY,rZ,b1,sY]
  have z0:([.int .i64 0,.int .i64 0,.int .i64 0,.int .i64 0,.aQ,.aQ,.aQ,.aQ,.aQ]:List AV)=vH vV:=rfl
  have cz:AV.aB (vH vV)=true:=rfl
  by_cases c1:xa (l.map (·.1))=true
  · have c2:zE x.m=false:=by
     cases q:zE x.m with
     |false=>rfl
     |true=>exact absurd ⟨c1,q⟩ ok
    rw[c2]at km
    rw[if_pos c1]
    clear ox rd hv x3 x4 g4 xh4 ox4 b0 b1
    generalize vH x=X at *
    generalize vH vV=Z at *
    simp (disch:=omega)only[go_sem,vN,AP.f240,wM,wD,gM4,CA,wL,lx,tX,Xf,km,z0,gR4,st]
  · rw[if_neg c1]
    clear ox rd hv x3 x4 g4 xh4 ox4 b0 b1
    generalize vH x=X at *
    generalize vH vV=Z at *
    simp (disch:=omega)only[go_sem,vN,AP.f240,wM,wD,z0,gR4,st]
 case pos=>
  obtain⟨c1,c2⟩:=ok
  rw[if_pos c1]at b1
  rw[c2]at km
  simp only[c1,if_true]at g4
  rw[wh]at g4
  have eR:w8 (l.map (·.1)) x.m=((xK (l.map (·.1)) x.m).getD zw,(xK (l.map (·.1)) x.m).isSome,0):=by unfold w8;rw[if_pos ⟨c1,c2⟩]
  rw[eR]
  have b2:aM (aS AP.A) bB (at_ 2 AP.f240.body) [(2,.aC h.next 0),(3,.aC (h.next+1) 0),(4,.aC (h.next+2) 0),(7,w),(8,.int .i64 0)] h4=some (.normal,[(2,.aC h.next 0),(3,.aC (h.next+1) 0),(4,.aC (h.next+2) 0),(7,w)],h4):=by
   clear ox rd hv x3 x4 g4 xh4 ox4 b0 b1
   generalize vH x=X at *
   simp (disch:=omega)only[go_sem,vN,AP.f240,wM,wD,gM4,CA,wL,lx,tX,Xf,km]
  obtain⟨y0,hy0⟩:∃y:wJ,y=⟨⟨0,x.m.dst,x.m.src,0,[],[],[],[],[]⟩,.aQ,.aQ,.aQ,.aQ,.aQ,[],[]⟩:=⟨_,rfl⟩
  obtain⟨h5,eh5⟩:∃g,g=(h4.alloc (vH vV)).set h4.next (vH y0):=⟨_,rfl⟩
  have ga:(h4.alloc (vH vV)).get h4.next=some (vH vV):=vO rfl
  have n5:h5.next=h4.next+1:=by rw[eh5];simp
  have f5:h5.floor=h.floor:=by rw[eh5];simp;omega
  have x5:Ext h4 h5:=fun i c q=>by have:=h4.lt _ _ q;rw[eh5,vL (by omega),vS (by omega)];exact q
  have g5:h5.get h4.next=some (vH y0):=by rw[eh5,vP rfl,ga];rfl
  have st5:ur (h4.alloc (vH vV)) h4.next 0 9 (vH y0) (some (vH vV))=some h5:=by rw[eh5];exact wH (by simp;omega) rfl rfl (by rw[hy0];rfl)
  have b3:aM (aS AP.A) bB (at_ 3 AP.f240.body) [(2,.aC h.next 0),(3,.aC (h.next+1) 0),(4,.aC (h.next+2) 0),(7,w)] h4=some (.normal,[(2,.aC h.next 0),(3,.aC (h.next+1) 0),(4,.aC (h.next+2) 0),(7,w),(9,.aC h4.next 0)],h5):=by
   have e1:(vH x)[1]?=some (.int .i64 x.m.src):=rfl
   have e2:(vH x)[2]?=some (.int .i64 x.m.dst):=rfl
   have z0:([.int .i64 0,.int .i64 0,.int .i64 0,.int .i64 0,.aQ,.aQ,.aQ,.aQ,.aQ]:List AV)=vH vV:=rfl
   have zy:dZ (vH vV) [(1,1,.int .i64 x.m.dst),(2,1,.int .i64 x.m.src)]=some (vH y0):=by rw[hy0];rfl
   have cz:AV.aB (vH vV)=true:=rfl
   clear ox rd hv x3 x4 g4 xh4 ox4 b0 b1 b2 x5 hy0 tX
   generalize vH x=X at *
   generalize vH vV=Z at *
   generalize vH y0=Y at *
   simp (disch:=omega)only[go_sem,AP.f240,wM,wD,gM4,e1,e2,z0,zy,cz,yH,wL,AQ,Xk,Xx,ga,st5,vk,vP,vL,vO,vS]
  have ka:=Iy h5 x.m.kind
  have gM5:=x5 _ _ gM4
  have e0:(vH x)[0]?=some (.int .i64 x.m.kind):=rfl
  have b4:∀fv,aS AP.A 277 [.int .i64 x.m.kind] h5=some (fv,h5)→aM (aS AP.A) bB (at_ 4 AP.f240.body) [(2,.aC h.next 0),(3,.aC (h.next+1) 0),(4,.aC (h.next+2) 0),(7,w),(9,.aC h4.next 0)] h5=some (.normal,[(2,.aC h.next 0),(3,.aC (h.next+1) 0),(4,.aC (h.next+2) 0),(7,w),(9,.aC h4.next 0),(10,fv)],h5):=fun fv q=>by
   clear ox rd hv x3 x4 g4 xh4 ox4 b0 b1 b2 b3 x5 hy0 tX ka
   generalize vH x=X at *
   simp (disch:=omega)only[go_sem,vN,AP.f240,wM,wD,gM5,e0,q]
  have hb:∀fv,aS AP.A 277 [.int .i64 x.m.kind] h5=some (fv,h5)→aM (aS AP.A) bB AP.f240.body (params 0 [.agg [v],.agg (vH x)]) h=aM (aS AP.A) bB (DO 5 AP.f240.body) [(2,.aC h.next 0),(3,.aC (h.next+1) 0),(4,.aC (h.next+2) 0),(7,w),(9,.aC h4.next 0),(10,fv)] h5:=fun fv q=>by
   rw[Fj,rZ,b0,sY,rZ,b1,sY,rZ,b2,sY,rZ,b3,sY,rZ,b4 fv q,sY]
   rfl
  obtain⟨h6,eh6⟩:∃g,g=h5.alloc [v,w]:=⟨_,rfl⟩
  have x6:Ext h5 h6:=by rw[eh6];exact(Ext.refl _).alloc _
  have n6:h6.next=h4.next+2:=by rw[eh6];simp [n5]
  have f6:h6.floor=h.floor:=by rw[eh6];simp [f5]
  have rdW:Rd h4 w (ints (vY (l.map (·.1)))):=E4 (by rw[wh];exact g4.own)
  have sd:Sd h4 v w l:=⟨rd.mono fun i c q=>xh4 i c q,fun z hz=>⟨(hv z hz).1.mono xh4,(hv z hz).2⟩,c1,rdW⟩
  have k3:Jh h4 h6 h5.next (h.next+1) h4.next v w l x:=⟨sd,ox4,by rw[eh6,vO rfl],x6 _ _ gM5,⟨by omega,by omega⟩,fun i c q=>x6 _ _ (x5 _ _ q),u6 _,by omega,by omega,by omega⟩
  have gO6:=x6 _ _ g5
  have gR6:=x6 _ _ (x5 _ _ gR4)
  have gP5:=x5 _ _ gP4
  have fin:∀{b:Bool} {h7:H} {y:wJ} {f:Nat},aS AP.A 277 [.int .i64 x.m.kind] h5=some (.fn f [] [],h5)→aS AP.A f [.aC h5.next 0,.aC (h.next+1) 0,.aC h4.next 0] h6=some (.bool b,h7)→h7.get h4.next=some (vH y)→(∀i c,i≠h4.next→h6.get i=some c→h7.get i=some c)→h6.next≤h7.next→h7.floor=h6.floor→AV.aB (vH y)=true→
   ∃h',aS AP.A 240 [.agg [v],.agg (vH x)] h=some (.bP [.agg (vH (if b then y else vV)),.bool b,.int .i64 0],h')∧(∀i c,i≠h.next+2→h7.get i=some c→h'.get i=some c)∧h'.floor=h.floor∧h'.next=h7.next:=fun {b h7 y f} qa qf qO ql qn qfl qc=>by
   have gR7:=ql _ _ (by omega) gR6
   obtain⟨e,t1,t2,t3,t4⟩:=Jq (P:=h.next) (M:=h.next+1) (O:=h4.next) eh6.symm sv sw gP5 qf qO gR7 (by omega) qc
   refine⟨if b then h7.set (h.next+2) (vH y)else h7.set (h.next+2) (vH vV),tT (fn:=AP.f240) (h2:=if b then h7.set (h.next+2) (vH y)else h7.set (h.next+2) (vH vV)) (e:=e) (vs:=[.agg (vH (if b then y else vV)),.bool b,.int .i64 0]) rfl rfl rfl (by rw[hb _ qa,t1]) ?_,fun i c q1 q2=> ?_, ?_, ?_⟩
   · cases b with
     | true =>
       have gg:(h7.set (h.next+2) (vH y)).get (h.next+2)=some (vH y):=by rw[vP rfl,gR7];rfl
       simp only[AP.f240,cM,nk,t2,t3,t4,if_true,qQ,gg,tu];rfl
     | false =>
       have gg:(h7.set (h.next+2) (vH vV)).get (h.next+2)=some (vH vV):=by rw[vP rfl,gR7];rfl
       simp only[AP.f240,cM,nk,t2,t3,t4,u0,vG,qQ,gg,tu];rfl
   · cases b<;>simp only[u0,if_true,vG]<;>rw[vL q1]<;>exact q2
   · cases b<;>simp [qfl,f6]
   · cases b<;>simp
  have none_fin:∀{h7:H} {h':H} (e:Ae×Bool×Int),e=(zw,false,0)→aS AP.A 240 [.agg [v],.agg (vH x)] h=some (.bP [.agg (vH vV),.bool false,.int .i64 0],h')→Ext h h'→h'.floor=h.floor→h.next≤h'.next→
   ∃y h',aS AP.A 240 [.agg [v],.agg (vH x)] h=some (.bP [.agg (vH y),.bool e.2.1,.int .i64 e.2.2],h')∧y.m=e.1∧VB h h' y:=fun {h7 h'} e he q1 q2 q3 q4=>by
   subst he
   exact⟨vV,h',q1,rfl,Is h',It _ _,q2,q3,q4⟩
  have xfin:∀{h7 h':H},(∀i c,i≠h4.next→h6.get i=some c→h7.get i=some c)→(∀i c,i≠h.next+2→h7.get i=some c→h'.get i=some c)→Ext h h':=fun a b i c q=>by
   have:=h.lt _ _ q
   exact b _ _ (by omega) (a _ _ (by omega) (x6 _ _ (x5 _ _ (xh4 _ _ q))))
  obtain⟨iw,ew,gw,fw,_⟩:∃i,w=.aD i 0 8 1∧h4.get i=some (ints (vY (l.map (·.1))))∧h4.floor≤i∧h3.next≤i:=by
   obtain⟨_,⟨_,q⟩|⟨i,q1,q2,q3,_⟩⟩:=g4.own
   · exact absurd q (by decide)
   · exact⟨i,q1,q2,q3,g4.ge i (by rw[q1];rfl)⟩
  have iwn:=h4.lt _ _ gw
  by_cases h0:x.m.kind=0
  · rw[if_pos h0]at ka
    have sd6:=sd.mono fun i c q=>x6 _ _ (x5 _ _ q)
    have ks:=KE h6 h5.next (h.next+1) h4.next v w l sd6 (by rw[eh6,vO rfl]) x y0 k3.gM gO6 (by omega) k3.ne sw
    have low:∀i c,i≠h4.next→h6.get i=some c→(h6.set h4.next (vH {y0 with m:={y0.m with kind:=1},vd:=w})).get i=some c:=fun i c c2 q=>by rw[vL c2];exact q
    obtain⟨h',t1,t2,t3,t4⟩:=fin (y:={y0 with m:={y0.m with kind:=1},vd:=w}) ka ks (by rw[vP rfl,gO6];rfl) low (by simp) (by simp) (by rw[hy0];simp [vH,sw])
    have X':=xfin low t2
    have N':h.next≤h'.next:=by rw[t4];simp;omega
    by_cases c:wG (vY (l.map (·.1)))=x.m.root
    · rw[dt c,Bool.not_true,if_neg (by decide)]at t1
      refine none_fin (h7:=h6) _ ?_ t1 X' t3 N'
      unfold xK;rw[if_pos h0,if_pos c];rfl
    · rw[df c,Bool.not_false,if_pos rfl]at t1
      have ea:xK (l.map (·.1)) x.m=some ⟨1,x.m.dst,x.m.src,0,vY (l.map (·.1)),[],[],[],[]⟩:=by unfold xK;rw[if_pos h0,if_neg c]
      rw[ea]
      have gw':h'.get iw=some (ints (vY (l.map (·.1)))):=t2 _ _ (by omega) (low _ _ (by omega) (x6 _ _ (x5 _ _ gw)))
      refine⟨⟨⟨1,x.m.dst,x.m.src,0,vY (l.map (·.1)),[],[],[],[]⟩,w,.aQ,.aQ,.aQ,.aQ,[],[]⟩,h', ?_,rfl,⟨⟨?_,z9 _,E5 _,rfl,z9 _,CB _ _,rfl,fun y hy=>(by cases hy),fun y hy=>(by cases hy),⟨sw,rfl,rfl,rfl,rfl⟩, ?_,by show(0:Nat)<_;omega,by show(0:Nat)<_;omega,by show(0:Nat)<_;omega,by show(0:Nat)<_;omega,⟨fun s hs=>(by cases hs),fun s hs=>(by cases hs)⟩⟩,.d (.inr ⟨iw, ?_,gw',by omega,by omega, ?_⟩) rfl rfl rfl rfl,X',t3,N'⟩⟩
      · rw[t1,hy0];rfl
      · rw[ew];exact Rd.obj gw' (wh _)
      · show(vY (l.map (·.1))).length<_;rw[wh];omega
      · show w=_;rw[ew,wh]
      · show(vY (l.map (·.1))).length<_;rw[wh];omega
  rw[if_neg h0]at ka
  by_cases h1:x.m.kind=1
  · rw [if_pos h1] at ka
    have l8:x.m.wS.length=8:=by
     have:=c2
     unfold zE xu at this
     rw[if_neg h0,if_pos h1]at this
     simp only[u9,Xh]at this
     exact this.2.1.1
    obtain⟨h7,ov,ow,acc,ks,low,n7,f7,gO7,o1,o2,m2,g1,g2,g3⟩:=Ja (y:=y0) k3 sv l8 gO6 (by rw[hy0])
    have s1:=o1.sc
    have s2:=o2.sc
    obtain⟨h',t1,t2,t3,t4⟩:=fin (y:={y0 with m:={y0.m with kind:=2},vb:=ov,vf:=ow}) ka ks gO7 low n7 f7 (by rw[hy0];simp [vH,s1,s2])
    have X':=xfin low t2
    have N':h.next≤h'.next:=by rw[t4];omega
    obtain⟨U,hU⟩:∃U,U=xL (l.map (·.1)) x.m.wS:=⟨_,rfl⟩
    rw[←hU]at t1 o1 m2
    by_cases c:U=[]
    · rw[c]at t1
      refine none_fin (h7:=h6) _ ?_ t1 X' t3 N'
      unfold xK;rw[if_neg h0,if_pos h1,←hU,if_pos c];rfl
    · have U0:0<U.length:=Xw.2 c
      rw[dt U0,if_pos rfl]at t1
      have ea:xK (l.map (·.1)) x.m=some ⟨2,x.m.dst,x.m.src,0,[],U,w9 (l.map (·.1)) U,[],[]⟩:=by unfold xK;rw[if_neg h0,if_pos h1,←hU,if_neg c]
      rw[ea]
      have Ul:U.length≤8:=by rw[hU];have:=zB (vY (l.map (·.1))) x.m.wS 0;rw[wh]at this;exact this
      have o1':wo 1 h' ov U.length (ints U):=by
       obtain⟨a,⟨b1,b2⟩|⟨j,b1,b2,b3,b4⟩⟩:=o1
       · exact⟨a,.inl ⟨b1,b2⟩⟩
       · have:=g1 j (by rw[b1];rfl)
         exact⟨a,.inr ⟨j,b1,t2 _ _ (by omega) b2,by omega,b4⟩⟩
      have o2':wo 2 h' ow acc.length (wO acc):=by
       obtain⟨a,⟨b1,b2⟩|⟨j,b1,b2,b3,b4⟩⟩:=o2
       · exact⟨a,.inl ⟨b1,b2⟩⟩
       · have:=(g2 j (by rw[b1];rfl)).1
         exact⟨a,.inr ⟨j,b1,t2 _ _ (by omega) b2,by omega,b4⟩⟩
      have al:acc.length≤6:=by
       have:=Xy List.length m2
       rw[Xd]at this
       have a2:=zT (l.map (·.1)) U
       have a3:=(wF (xS c1)).1
       omega
      have bsz:∀z∈acc,z.1.1.size≤8:=fun z hz=>by
       have:z.1∈w9 (l.map (·.1)) U:=by rw[←m2];exact Xl.2 ⟨z,hz,rfl⟩
       unfold w9 at this
       obtain⟨e,he,q⟩:=Xl.1 this
       rw[←q]
       exact(Al c1 e ((List.mem_filter.1 he).1)).2.2
      have vz:∀z∈acc,z.1.2.length=4∧∃j,z.2=.aD j 0 4 1∧h'.get j=some (ints z.1.2)∧h.next≤j∧ow.id?≠some j∧ov.id?≠some j∧h'.floor≤j:=fun z hz=>by
       obtain⟨a1,j,a2,a3,a4,a5,a6,a7⟩:=g3 z hz
       exact⟨a1,j,a2,t2 _ _ (by omega) a3,by omega,a5,a6,by omega⟩
      refine⟨⟨⟨2,x.m.dst,x.m.src,0,[],U,w9 (l.map (·.1)) U,[],[]⟩,.aQ,ov,ow,.aQ,.aQ,acc,[]⟩,h', ?_,rfl,⟨⟨z9 _,E4 o1',⟨o2'.rd,fun z hz=> ?_⟩,m2,z9 _,CB _ _,rfl,fun y hy=>(by cases hy),fun z hz=> ?_,⟨rfl,s1,s2,rfl,rfl⟩,by show(0:Nat)<_;omega,by show U.length<_;omega, ?_,by show(0:Nat)<_;omega,by show(0:Nat)<_;omega,⟨fun s hs=>(by cases hs),fun b hb=> ?_⟩⟩,.b ?_ ⟨o2',fun i q=>by have:=(g2 i q).1;omega,fun z hz=> ?_⟩ (by show acc.length≤1000;omega) (fun i q=> ?_) rfl rfl rfl,X',t3,N'⟩⟩
      · rw[t1,hy0];rfl
      · obtain⟨a1,j,a2,a3,_⟩:=vz z hz
        rw[a2]
        exact⟨Rd.obj a3 a1,by omega⟩
      · obtain⟨a1,j,a2,_⟩:=vz z hz
        rw[a2];rfl
      · have a2:=zT (l.map (·.1)) U
        have a3:=(wF (xS c1)).1
        show(w9 (l.map (·.1)) U).length<_
        omega
      · have hb':b∈w9 (l.map (·.1)) U:=hb
        rw[←m2]at hb'
        obtain⟨z,hz,rfl⟩:=Xl.1 hb'
        have:=bsz z hz
        omega
      · obtain⟨_,⟨b1,b2⟩|⟨j,b1,b2,b3,b4⟩⟩:=o1'
        · exact .inl b1
        · have:=g1 j (by rw[b1];rfl)
          exact .inr ⟨j,b1,b2,b3,by omega,by show U.length<_;omega⟩
      · obtain⟨a1,j,a2,a3,a4,a5,a6,a7⟩:=vz z hz
        exact⟨bsz z hz,a1,j,a2,a3,a4,a5,a7⟩
      · refine⟨fun q2=>(g2 i q2).2 q,fun z hz q2=> ?_⟩
        obtain⟨a1,j,a2,a3,a4,a5,a6,a7⟩:=vz z hz
        rw[a2]at q2
        obtain rfl:=uS q2
        exact a6 q
  rw[if_neg h1]at ka
  by_cases h2':x.m.kind=2
  · rw [if_pos h2'] at ka
    have fm:x.m.vR.length≤6∧(∀b∈x.m.vR,xn b.2=true)∧∀b∈x.m.vR,b.1.size≤8:=by
     have:=c2
     unfold zE xu at this
     rw[if_neg h0,if_neg h1,if_pos h2']at this
     simp only[u9,Xh,Xv]at this
     exact⟨this.2.1.2.2.2.1,this.2.1.2.2.2.2,fun b hb=>Ep this.2.1.2.2.1 b.1 (Xl.2 ⟨b,hb,rfl⟩)⟩
    have fl6:x.fs.length≤6:=by
     have:x.fs.length=x.m.vR.length:=by rw[←ox.hf];simp
     omega
    obtain⟨h7,ov,ks,low,n7,f7,gO7,o1,g1⟩:=Sn (y:=y0) k3 fl6 fm.2.1 gO6 (by rw[hy0])
    have s1:=o1.sc
    obtain⟨h',t1,t2,t3,t4⟩:=fin (y:={y0 with m:={y0.m with kind:=3},vn:=ov}) ka ks gO7 low n7 f7 (by rw[hy0];simp [vH,s1])
    have X':=xfin low t2
    have N':h.next≤h'.next:=by rw[t4];omega
    obtain⟨U,hU⟩:∃U,U=xD (l.map (·.1)) x.m.vR:=⟨_,rfl⟩
    rw[←hU]at t1 o1
    by_cases c:U=[]
    · rw[c]at t1
      refine none_fin (h7:=h6) _ ?_ t1 X' t3 N'
      unfold xK;rw[if_neg h0,if_neg h1,if_pos h2',←hU,if_pos c];rfl
    · have U0:0<U.length:=Xw.2 c
      rw[dt U0,if_pos rfl]at t1
      have ea:xK (l.map (·.1)) x.m=some ⟨3,x.m.dst,x.m.src,0,[],[],[],U,[]⟩:=by unfold xK;rw[if_neg h0,if_neg h1,if_pos h2',←hU,if_neg c]
      rw[ea]
      have Ul:U.length≤6:=by rw[hU];unfold xD;rw[Xd];exact vD (List.length_filter_le _ _) fm.1
      have Us:∀s∈U,s.size≤8:=fun s hs=>by
       rw[hU]at hs
       unfold xD at hs
       obtain⟨b,hb,rfl⟩:=Xl.1 hs
       exact fm.2.2 b (List.mem_filter.1 hb).1
      have o1':wo 1 h' ov U.length (wW U):=by
       obtain⟨a,⟨b1,b2⟩|⟨j,b1,b2,b3,b4⟩⟩:=o1
       · exact⟨a,.inl ⟨b1,b2⟩⟩
       · have:=g1 j (by rw[b1];rfl)
         exact⟨a,.inr ⟨j,b1,t2 _ _ (by omega) b2,by omega,b4⟩⟩
      have rN:Rd h' ov (wW U):=by
       have:=o1'.rd
       exact⟨by rw[wA];exact this.1,this.2.2⟩
      refine⟨⟨⟨3,x.m.dst,x.m.src,0,[],[],[],U,[]⟩,.aQ,.aQ,.aQ,ov,.aQ,[],[]⟩,h', ?_,rfl,⟨⟨z9 _,z9 _,E5 _,rfl,rN,CB _ _,rfl,fun y hy=>(by cases hy),fun y hy=>(by cases hy),⟨rfl,rfl,rfl,s1,rfl⟩,by show(0:Nat)<_;omega,by show(0:Nat)<_;omega,by show(0:Nat)<_;omega,by show U.length<_;omega,by show(0:Nat)<_;omega,⟨fun s hs=>by have:=Us s hs;omega,fun s hs=>(by cases hs)⟩⟩,.n ?_ rfl rfl rfl rfl,X',t3,N'⟩⟩
      · rw[t1,hy0];rfl
      · obtain⟨_,⟨b1,b2⟩|⟨j,b1,b2,b3,b4⟩⟩:=o1'
        · exact .inl b1
        · have:=g1 j (by rw[b1];rfl)
          exact .inr ⟨j,b1,b2,b3,by omega,by show U.length<_;omega,fun s hs=>by have:=Us s hs;omega⟩
  rw[if_neg h2']at ka
  by_cases h3':x.m.kind=3
  · rw [if_pos h3'] at ka
    have nl6:x.m.names.length≤6:=by
     have:=c2
     unfold zE xu at this
     rw[if_neg h0,if_neg h1,if_neg h2',if_pos h3']at this
     simp only[u9,Xh]at this
     exact this.2.1.2.2
    obtain⟨h7,ov,acc,ks,low,n7,f7,gO7,o1,m1,a6⟩:=Sm (y:=y0) k3 nl6 gO6 (by rw[hy0])
    have s1:=o1.own.sc
    obtain⟨h',t1,t2,t3,t4⟩:=fin (y:={y0 with m:={y0.m with kind:=4},ve:=ov}) ka ks gO7 low n7 f7 (by rw[hy0];simp [vH,s1])
    have X':=xfin low t2
    have N':h.next≤h'.next:=by rw[t4];omega
    obtain⟨U,hU⟩:∃U,U=zk (l.map (·.1)) x.m.names:=⟨_,rfl⟩
    rw[←hU]at t1 m1
    by_cases c:U=[]
    · rw[c]at t1
      refine none_fin (h7:=h6) _ ?_ t1 X' t3 N'
      unfold xK;rw[if_neg h0,if_neg h1,if_neg h2',if_pos h3',←hU,if_pos c];rfl
    · have U0:0<U.length:=Xw.2 c
      rw[dt U0,if_pos rfl]at t1
      have ea:xK (l.map (·.1)) x.m=some ⟨4,x.m.dst,x.m.src,0,[],[],[],[],U⟩:=by unfold xK;rw[if_neg h0,if_neg h1,if_neg h2',if_pos h3',←hU,if_neg c]
      rw[ea]
      have Ul:U.length≤6:=by have:=Xy List.length m1;rw[Xd]at this;omega
      have o1':WE h.next h' ov acc:=by
       refine⟨?_,fun i q=>by have:=o1.ge i q;omega,fun z hz=> ?_⟩
       · obtain⟨a,⟨b1,b2⟩|⟨j,b1,b2,b3,b4⟩⟩:=o1.own
         · exact⟨a,.inl ⟨b1,b2⟩⟩
         · have:=o1.ge j (by rw[b1];rfl)
           exact⟨a,.inr ⟨j,b1,t2 _ _ (by omega) b2,by omega,b4⟩⟩
       · obtain⟨d1,d2,j,d3,d4,d5,d6,d7⟩:=o1.el z hz
         exact⟨d1,d2,j,d3,t2 _ _ (by omega) d4,by omega,d6,by omega⟩
      have sz:∀z∈acc,z.1.name.size≤8∧z.1.packed.size≤300:=fun z hz=>by
       have:z.1∈U:=by rw[←m1];exact Xl.2 ⟨z,hz,rfl⟩
       rw[hU]at this
       have mf:=(wF (xS c1)).2.1 z.1 (Kt this)
       exact⟨(xP mf.1).2,zX mf.2.2⟩
      refine⟨⟨⟨4,x.m.dst,x.m.src,0,[],[],[],[],U⟩,.aQ,.aQ,.aQ,.aQ,ov,[],acc⟩,h', ?_,rfl,⟨⟨z9 _,z9 _,E5 _,rfl,z9 _,o1'.own.rd,m1,fun z hz=> ?_,fun y hy=>(by cases hy),⟨rfl,rfl,rfl,rfl,s1⟩,by show(0:Nat)<_;omega,by show(0:Nat)<_;omega,by show(0:Nat)<_;omega,by show(0:Nat)<_;omega,by show U.length<_;omega,⟨fun s hs=>(by cases hs),fun s hs=>(by cases hs)⟩⟩,.e o1' (by show acc.length≤1000;omega) rfl rfl rfl rfl,X',t3,N'⟩⟩
      · rw[t1,hy0];rfl
      · obtain⟨d1,d2,j,d3,d4,d5,d6,d7⟩:=o1'.el z hz
        have:=sz z hz
        exact⟨⟨by rw[d3];exact Rd.obj d4 d2,by omega,by omega,by omega⟩,by rw[d3];rfl⟩
  rw[if_neg h3']at ka
  have gR5:=x5 _ _ gR4
  have st:ur h5 (h.next+2) 0 9 (vH vV) (some (vH vV))=some h5:=by rw[wH (n:=9) (by omega) rfl rfl rfl,H.jI gR5]
  refine none_fin (h7:=h6) (h':=h5) _ ?_ ?_ (fun i c q=>x5 _ _ (xh4 _ _ q)) f5 (by omega)
  · unfold xK;rw[if_neg h0,if_neg h1,if_neg h2',if_neg h3'];rfl
  · refine tT (fn:=AP.f240) (h2:=h5) (e:=[(4,.aC (h.next+2) 0),(5,.bool false),(6,.int .i64 0)]) (vs:=[.agg (vH vV),.bool false,.int .i64 0]) rfl rfl rfl ?_ (by simp only[AP.f240,cM,nk,mU,lF,ne_eq,Nat.reduceEqDiff,not_false_eq_true,qQ,gR5,tu];rfl)
    rw[hb _ ka]
    have z0:([.int .i64 0,.int .i64 0,.int .i64 0,.int .i64 0,.aQ,.aQ,.aQ,.aQ,.aQ]:List AV)=vH vV:=rfl
    have k8:fJ 2 .eV .eV=some true:=rfl
    clear ox rd hv x3 x4 g4 xh4 ox4 b0 b1 b2 b3 x5 hy0 tX ka sd k3 fin xfin none_fin hb
    generalize vH vV=Z at *
    simp (disch:=omega)only[go_sem,vN,AP.f240,yK,yL,k8,z0,gR5,st]
theorem HP (a b:ByteArray):br .leq (.str a) (.str b)=some (.bool (!Op.bytesLess b.toList a.toList)):=by
 show some (AV.bool (Op.bytesLess a.toList b.toList||a.toList==b.toList))=_
 rw[A3 a.toList b.toList,Bool.not_not]
theorem Ej {v : AV} {l : List ByteArray} (hn : l.length < 1125899906842624) (hs : ∀ s ∈ l, s.size < 1125899906842624) (h : H) (rd : Rd h v (wW l)) : ∀ (q p : List ByteArray), l = p ++ q →
 (∃e',Lp AP.A [0,3] AP.f273L0 [(0,v),(3,.int .i64 p.length)] h=some (.exit 0,e',h)∧look e' 0=v∧xe p.getLast? q=true)∨
 (∃e',Lp AP.A [0,3] AP.f273L0 [(0,v),(3,.int .i64 p.length)] h=some (.ret,e',h)∧look e' 2=.bool false∧xe p.getLast? q=false)
 | [], p, hp => by
   rw[Xe]at hp;subst hp
   have ln:=rd.Bb.len
   rw[wA]at ln
   refine .inl ⟨[(0,v),(3,.int .i64 l.length),(7,.bool false)],tF ?_,rfl,rfl⟩
   simp (disch:=omega)only[go_sem,vN,AP.f273L0,ln]
 | s :: q, p, hp => by
   have hlen:l.length=p.length+(q.length+1):=by rw[hp];simp
   have hx:l[p.length]?=some s:=by rw[hp];simp
   have ln:=rd.Bb.len
   rw[wA]at ln
   obtain⟨ad,a1,_,a3⟩:=rd.AH
   have b1:=a1 p.length ⟨by omega,by omega⟩
   have b2:=a3 h (Ext.refl h) p.length s hx
   have k1:=EV h s (hs s (by rw[hp];simp))
   have ih:=Ej hn hs h rd q (p++[s]) (by rw[hp];simp)
   have w1:(((p++[s]).length:Nat):Int)=(p.length:Int)+1:=by simp
   rw[w1,XJ]at ih
   rw[CC]
   have step:aM (aS AP.A) bB AP.f273L0 (ax [(0,v),(3,.int .i64 p.length)] [0,3]) h=if(wY s&&yG p.getLast? s)=true then some (.normal,[(0,v),(3,.int .i64 ((p.length:Int)+1))],h)else some (.ret,[(2,.bool false)],h):=by
    cases hl:p.getLast? with
    | none =>
      have hp1:p.length=0:=by rw[Xz.1 hl];rfl
      clear ih w1 hp hx a1 a3 rd
      rw[show yG none s=true from rfl]
      generalize wY s=B1 at *
      cases B1<;>simp only[Xg,Xr,Xj,if_true,u0,vG]<;>simp (disch:=omega)only[go_sem,vN,AP.f273L0,ln,b1,b2,k1]
    | some y =>
      obtain⟨p',rfl⟩:∃p',p=p'++[y]:=XA.1 hl
      have hpl:(p'++[y]).length=p'.length+1:=by simp
      have hy:l[p'.length]?=some y:=by rw[hp];simp
      have bj:=a1 p'.length ⟨by omega,by omega⟩
      have kj:=a3 h (Ext.refl h) p'.length y hy
      have cmp:=HP s y
      have n2:(((p'++[y]).length:Nat):Int)-1=(p'.length:Int):=by rw[hpl];omega
      clear ih w1 hp hx hy a1 a3 rd
      rw[show yG (some y) s=Op.bytesLess y.toList s.toList from rfl]
      generalize Op.bytesLess y.toList s.toList=B2 at *
      generalize wY s=B1 at *
      generalize (p'++[y]).length=pl at *
      cases B1<;>cases B2<;>simp only[Xg,Xr,Xi,Xj,if_true,u0,vG]<;>simp (disch:=omega)only[go_sem,vN,AP.f273L0,ln,b1,b2,k1,bj,kj,cmp,n2]
   generalize (wY s&&yG p.getLast? s)=ok at *
   cases ok with
   | true =>
     rw[if_pos rfl]at step
     rw[Xj]
     rcases ih with ⟨e',r1,r2,r4⟩|⟨e',r1,r2,r3⟩
     · exact .inl ⟨e',tG step r1,r2,r4⟩
     · exact .inr ⟨e',tG step r1,r2,r3⟩
   | false =>
     rw[if_neg (by decide)]at step
     rw[Xg]
     exact .inr ⟨_,uc step,rfl,rfl⟩
theorem R0 (h:H) {v:AV} {l:List ByteArray} (hn:l.length<1125899906842624) (hs:∀s∈l,s.size<1125899906842624) (rd:Rd h v (wW l)):aS AP.A 273 [v] h=some (.bool (xe none l&&(decide (1≤l.length)&&decide (l.length≤6))),h):=by
 have rdf:Rd h.dY v (wW l):=rd.mono fun i c q=>q
 have ln:=rdf.Bb.len
 rw[wA]at ln
 rcases Ej hn hs h.dY rdf l [] rfl with ⟨e',r1,r2,r3⟩|⟨e',r1,r2,r3⟩
 · have r1':Lp AP.A [0,3] AP.f273L0 [(0,v),(3,.int .i64 0)] h.dY=some (.exit 0,e',h.dY):=r1
   have r4':xe none l=true:=r3
   rw[r4',Xj]
   refine uo (fn:=AP.f273) (h2:=h.dY) (e:=[(2,.bool (decide (1≤l.length)&&decide (l.length≤6)))]) rfl rfl rfl ?_ rfl rfl
   clear rd rdf r1 r3 r4'
   by_cases c1:1≤l.length
   · by_cases c2:l.length≤6<;>simp (disch:=omega)only[go_sem,vN,AP.f273,ln,sF,r1',r2]
   · simp (disch:=omega)only[go_sem,vN,AP.f273,ln,sF,r1',r2]
 · have r1':Lp AP.A [0,3] AP.f273L0 [(0,v),(3,.int .i64 0)] h.dY=some (.ret,e',h.dY):=r1
   have r4':xe none l=false:=r3
   rw[r4',Xg]
   refine uo (fn:=AP.f273) (h2:=h.dY) (e:=e') (vs:=[.bool false]) rfl rfl rfl ?_ (by simp only[AP.f273,cM,nk,r2];rfl) rfl
   clear rd rdf r1 r3 r4'
   simp (disch:=omega)only[go_sem,vN,AP.f273,ln,sF,r1']
def CR:Option ByteArray→List GF→Bool
 |_,[]=>true
 |p,b::r=>(wY b.1&&(xn b.2&&yG p b.1))&&CR (some b.1) r
theorem Hn:∀(l:List GF) (p:Option ByteArray),CR p l=(xe p (l.map (·.1))&&l.all fun b=>xn b.2)
 |[],_=>rfl
 | b :: l, p => by
   rw[CR,Hn l,Xk,CC,XG]
   generalize wY b.1=A
   generalize xn b.2=B
   generalize yG p b.1=C
   cases A<;>cases B<;>cases C<;>simp
theorem Fy {v : AV} {l : List xx} (hn : l.length < 1125899906842624) (hs : ∀ b ∈ l, b.1.1.size < 1125899906842624) (h : H) (rd : ED h v l) : ∀ (q p : List xx), l = p ++ q →
 (∃e',Lp AP.A [0,3] AP.f272L0 [(0,v),(3,.int .i64 p.length)] h=some (.exit 0,e',h)∧look e' 0=v∧CR (p.getLast?.map (·.1.1)) (q.map (·.1))=true)∨
 (∃e',Lp AP.A [0,3] AP.f272L0 [(0,v),(3,.int .i64 p.length)] h=some (.ret,e',h)∧look e' 2=.bool false∧CR (p.getLast?.map (·.1.1)) (q.map (·.1))=false)
 | [], p, hp => by
   rw[Xe]at hp;subst hp
   have ln:=rd.rd.len
   refine .inl ⟨[(0,v),(3,.int .i64 l.length),(7,.bool false)],tF ?_,rfl,rfl⟩
   simp (disch:=omega)only[go_sem,vN,AP.f272L0,ln]
 | x :: q, p, hp => by
   have hlen:l.length=p.length+(q.length+1):=by rw[hp];simp
   have hx:l[p.length]?=some x:=by rw[hp];simp
   have ln:=rd.rd.len
   obtain⟨ad,a1,a2⟩:=rd.at_
   obtain⟨b1,b2,b3⟩:=a1 p.length ⟨by omega,by omega⟩
   obtain⟨l0,l1⟩:=a2 p.length x hx
   obtain⟨rv,lv⟩:=rd.vec x (by rw[hp];simp)
   have k1:=EV h x.1.1 (hs x (by rw[hp];simp))
   have k2:=Ff h x.2 x.1.2 rv lv
   have ih:=Fy hn hs h rd q (p++[x]) (by rw[hp];simp)
   have w1:(((p++[x]).length:Nat):Int)=(p.length:Int)+1:=by simp
   rw[w1,XJ]at ih
   have ec:CR (p.getLast?.map (·.1.1)) ((x::q).map (·.1))=((wY x.1.1&&(xn x.1.2&&yG (p.getLast?.map (·.1.1)) x.1.1))&&CR (some x.1.1) (q.map (·.1))):=rfl
   rw[ec]
   have step:aM (aS AP.A) bB AP.f272L0 (ax [(0,v),(3,.int .i64 p.length)] [0,3]) h=if(wY x.1.1&&(xn x.1.2&&yG (p.getLast?.map (·.1.1)) x.1.1))=true then some (.normal,[(0,v),(3,.int .i64 ((p.length:Int)+1))],h)else some (.ret,[(2,.bool false)],h):=by
    cases hl:p.getLast? with
    | none =>
      have hp1:p.length=0:=by rw[Xz.1 hl];rfl
      clear ih w1 hp hx a1 a2 rd rv ec
      rw[show yG (Option.map (fun y:xx=>y.1.1) none) x.1.1=true from rfl]
      generalize wY x.1.1=B1 at *
      generalize xn x.1.2=B3 at *
      cases B1<;>cases B3<;>simp only[Xg,Xr,Xi,Xj,if_true,u0,vG]<;>simp (disch:=omega)only[go_sem,vN,AP.f272L0,ln,b1,b2,b3,l0,l1,k1,k2]
    | some y =>
      obtain⟨p',rfl⟩:∃p',p=p'++[y]:=XA.1 hl
      have hpl:(p'++[y]).length=p'.length+1:=by simp
      have hy:l[p'.length]?=some y:=by rw[hp];simp
      obtain⟨c1,c2,_⟩:=a1 p'.length ⟨by omega,by omega⟩
      obtain⟨c3,_⟩:=a2 p'.length y hy
      have cmp:=HP x.1.1 y.1.1
      have n2:(((p'++[y]).length:Nat):Int)-1=(p'.length:Int):=by rw[hpl];omega
      clear ih w1 hp hx hy a1 a2 rd rv ec
      rw[show yG (Option.map (fun y:xx=>y.1.1) (some y)) x.1.1=Op.bytesLess y.1.1.toList x.1.1.toList from rfl]
      generalize Op.bytesLess y.1.1.toList x.1.1.toList=B2 at *
      generalize wY x.1.1=B1 at *
      generalize xn x.1.2=B3 at *
      generalize (p'++[y]).length=pl at *
      cases B1<;>cases B3<;>cases B2<;>simp only[Xg,Xr,Xi,Xj,if_true,u0,vG]<;>simp (disch:=omega)only[go_sem,vN,AP.f272L0,ln,b1,b2,b3,l0,l1,k1,k2,c1,c2,c3,cmp,n2]
   generalize (wY x.1.1&&(xn x.1.2&&yG (p.getLast?.map (·.1.1)) x.1.1))=ok at *
   cases ok with
   | true =>
     rw[if_pos rfl]at step
     rw[Xj]
     rcases ih with ⟨e',r1,r2,r4⟩|⟨e',r1,r2,r3⟩
     · exact .inl ⟨e',tG step r1,r2,r4⟩
     · exact .inr ⟨e',tG step r1,r2,r3⟩
   | false =>
     rw[if_neg (by decide)]at step
     rw[Xg]
     exact .inr ⟨_,uc step,rfl,rfl⟩
theorem SJ (h:H) {x:wJ} (o:zS h x):aS AP.A 272 [x.vf] h=some (.bool (xe none (x.m.vR.map (·.1))&&(decide (x.m.vR.length≤6)&&x.m.vR.all fun b=>xn b.2)),h):=by
 have rdf:ED h.dY x.vf x.fs:=o.rf.mono fun i c q=>q
 have ln:=rdf.rd.len
 have z:=o.zf
 have e2:x.m.vR.length=x.fs.length:=by rw[←o.hf];simp
 have eq:CR none (x.fs.map (·.1))=(xe none (x.m.vR.map (·.1))&&x.m.vR.all fun b=>xn b.2):=by rw[o.hf];exact Hn _ _
 have ef:(xe none (x.m.vR.map (·.1))&&(decide (x.m.vR.length≤6)&&x.m.vR.all fun b=>xn b.2))=(CR none (x.fs.map (·.1))&&decide (x.fs.length≤6)):=by
  rw[eq,←e2]
  generalize decide (x.m.vR.length≤6)=W
  cases W<;>simp
 rw[ef]
 rcases Fy (by omega) (fun b hb=>o.zs.2 b.1 (by rw[←o.hf];exact Xl.2 ⟨b,hb,rfl⟩)) h.dY rdf x.fs [] rfl with ⟨e',r1,r2,r3⟩|⟨e',r1,r2,r3⟩
 · have r1':Lp AP.A [0,3] AP.f272L0 [(0,x.vf),(3,.int .i64 0)] h.dY=some (.exit 0,e',h.dY):=r1
   have r4':CR none (x.fs.map (·.1))=true:=r3
   rw[r4',Xj]
   refine uo (fn:=AP.f272) (h2:=h.dY) (e:=[(2,.bool (decide (x.fs.length≤6)))]) rfl rfl rfl ?_ rfl rfl
   clear rdf r1 r3 r4' eq ef o
   by_cases c1:x.fs.length≤6<;>simp (disch:=omega)only[go_sem,vN,AP.f272,ln,sF,r1',r2]
 · have r1':Lp AP.A [0,3] AP.f272L0 [(0,x.vf),(3,.int .i64 0)] h.dY=some (.ret,e',h.dY):=r1
   have r4':CR none (x.fs.map (·.1))=false:=r3
   rw[r4',Xg]
   refine uo (fn:=AP.f272) (h2:=h.dY) (e:=e') (vs:=[.bool false]) rfl rfl rfl ?_ (by simp only[AP.f272,cM,nk,r2];rfl) rfl
   clear rdf r1 r3 r4' eq ef o
   simp (disch:=omega)only[go_sem,vN,AP.f272,ln,sF,r1']
theorem RP (h : H) (x : wJ) (o : zS h x) : aS AP.A 271 [.agg (vH x)] h = some (.bool (yk x.m), h) := by
 obtain⟨h1,eh1⟩:∃g,g=h.dY.alloc (vH x):=⟨_,rfl⟩
 have x1:Ext h h1:=fun i c q=>by rw[eh1];exact((Ext.refl h.dY).alloc _) i c q
 have g1:h1.get h.next=some (vH x):=by rw[eh1];exact vO rfl
 have n0:h.dY.next=h.next:=rfl
 have o1:=o.mono x1
 have ld:=o1.rd.len
 have lb:=o1.rb.len
 have lf:=o1.rf.rd.len
 have ln:=o1.rn.len
 have le:=o1.re.len
 rw[pP]at ld lb
 rw[wA]at ln
 rw[show x.fs.length=x.m.vR.length by rw[←o.hf];simp]at lf
 rw[show x.es.length=x.m.wT.length by rw[←o.he];simp]at le
 simp only[I]at ld lb ln
 have zd:=o.zd
 have zb:=o.zb
 have zf:=o.zf
 have zn:=o.zn
 have ze:=o.ze
 have cC:=xG o
 have lC:(vH x).length=9:=rfl
 have e0:(vH x)[0]?=some (.int .i64 x.m.kind):=rfl
 have e3:(vH x)[3]?=some (.int .i64 x.m.root):=rfl
 have e4:(vH x)[4]?=some x.vd:=rfl
 have e5:(vH x)[5]?=some x.vb:=rfl
 have e6:(vH x)[6]?=some x.vf:=rfl
 have e7:(vH x)[7]?=some x.vn:=rfl
 have e8:(vH x)[8]?=some x.ve:=rfl
 refine uo (fn:=AP.f271) (h2:=h1) (e:=[(2,.bool (yk x.m))]) rfl rfl rfl ?_ rfl rfl
 unfold yk
 clear o o1 x1
 generalize x.m.wX.length=nb at *
 generalize x.m.vR.length=nf at *
 generalize x.m.names.length=nn at *
 generalize x.m.wT.length=ne at *
 generalize x.m.wS.length=nd at *
 generalize x.m.kind=k at *
 generalize x.m.root=r at *
 generalize vH x=C at *
 have body:AP.f271.body=.seq (at_ 0 AP.f271.body) (DO 1 AP.f271.body):=rfl
 have b0:aM (aS AP.A) bB (at_ 0 AP.f271.body) (params 0 [.agg C]) h.dY=some (.normal,[(1,.aC h.next 0)],h1):=by
  simp (disch:=omega)only[go_sem,vN,AP.f271,wD,lC,cC,n0,←eh1]
 rw[body,rZ,b0,sY]
 have T:∀a b c d e:Bool,((k=0∨r=0)↔a=true)→((k=1∨nd=0)↔b=true)→((k=2∨nb+nf=0)↔c=true)→((k=3∨nn=0)↔d=true)→((k=4∨ne=0)↔e=true)→(((decide (k=0)||decide (r=0))&&((decide (k=1)||decide (nd=0))&&((decide (k=2)||decide (nb+nf=0))&&((decide (k=3)||decide (nn=0))&&(decide (k=4)||decide (ne=0))))))=(a&&(b&&(c&&(d&&e))))):=by
  intro a b c d e ha hb hc hd he
  rw[Bool.eq_iff_iff]
  simp only[u9,vv,Xh,ha,hb,hc,hd,he]
 by_cases p0:k=0∨r=0
 · by_cases p1:k=1∨nd=0
   · by_cases p2:k=2∨nb+nf=0
     · by_cases p3:k=3∨nn=0
       · by_cases p4:k=4∨ne=0
         · rw[T true true true true true ⟨fun _=>rfl,fun _=>p0⟩ ⟨fun _=>rfl,fun _=>p1⟩ ⟨fun _=>rfl,fun _=>p2⟩ ⟨fun _=>rfl,fun _=>p3⟩ ⟨fun _=>rfl,fun _=>p4⟩]
           by_cases z0:k=0<;>by_cases z1:k=1<;>by_cases z2:k=2<;>by_cases z3:k=3<;>by_cases z4:k=4<;>first|(exfalso;omega)|simp (disch:=omega)only[go_sem,vN,AP.f271,yK,yL,g1,e0,e3,e4,e5,e6,e7,e8,ld,lb,lf,ln,le]
         · rw[T true true true true false ⟨fun _=>rfl,fun _=>p0⟩ ⟨fun _=>rfl,fun _=>p1⟩ ⟨fun _=>rfl,fun _=>p2⟩ ⟨fun _=>rfl,fun _=>p3⟩ ⟨fun q=>absurd q p4,fun q=>by cases q⟩]
           by_cases z0:k=0<;>by_cases z1:k=1<;>by_cases z2:k=2<;>by_cases z3:k=3<;>first|(exfalso;omega)|simp (disch:=omega)only[go_sem,vN,AP.f271,yK,yL,g1,e0,e3,e4,e5,e6,e7,e8,ld,lb,lf,ln,le]
       · rw[show((decide (k=3)||decide (nn=0))&&(decide (k=4)||decide (ne=0)))=false by simp at p3;simp [p3]]
         simp only[Xi]
         by_cases z0:k=0<;>by_cases z1:k=1<;>by_cases z2:k=2<;>first|(exfalso;omega)|simp (disch:=omega)only[go_sem,vN,AP.f271,yK,yL,g1,e0,e3,e4,e5,e6,e7,e8,ld,lb,lf,ln,le]
     · rw[show(decide (k=2)||decide (nb+nf=0))=false by simp only[Bool.or_eq_false_iff,decide_eq_false_iff_not];omega]
       simp only[Xi,Xg]
       by_cases z0:k=0<;>by_cases z1:k=1<;>first|(exfalso;omega)|simp (disch:=omega)only[go_sem,vN,AP.f271,yK,yL,g1,e0,e3,e4,e5,e6,e7,e8,ld,lb,lf,ln,le]
   · rw[show(decide (k=1)||decide (nd=0))=false by simp only[Bool.or_eq_false_iff,decide_eq_false_iff_not];omega]
     simp only[Xi,Xg]
     by_cases z0:k=0<;>first|(exfalso;omega)|simp (disch:=omega)only[go_sem,vN,AP.f271,yK,yL,g1,e0,e3,e4,e5,e6,e7,e8,ld,lb,lf,ln,le]
 · rw[show(decide (k=0)||decide (r=0))=false by simp only[Bool.or_eq_false_iff,decide_eq_false_iff_not];omega]
   simp only[Xi,Xg]
   simp (disch:=omega)only[go_sem,vN,AP.f271,yK,yL,g1,e0,e3,e4,e5,e6,e7,e8,ld,lb,lf,ln,le]
theorem Ey {b : Nat} {C : List AV} {v F : AV} {l : List Int} (hn : l.length < 1125899906842624) (h : H) (g : h.get b = some C) (e4 : C[4]? = some v) (rd : Rd h v (ints l)) : ∀ (q p : List Int), l = p ++ q →
 (∃e',Lp AP.A [1,3,4] AP.f234L0 [(1,.aC b 0),(3,F),(4,.int .i64 p.length)] h=some (.exit 1,e',h)∧look e' 1=.aC b 0∧look e' 3=F∧q.all zm=true)∨
 (∃e',Lp AP.A [1,3,4] AP.f234L0 [(1,.aC b 0),(3,F),(4,.int .i64 p.length)] h=some (.ret,e',h)∧look e' 2=.bool false∧q.all zm=false)
 | [], p, hp => by
   rw[Xe]at hp;subst hp
   have ln:=rd.len
   rw[pP]at ln
   simp only[I]at ln
   refine .inl ⟨[(1,.aC b 0),(3,F),(4,.int .i64 l.length),(49,.bool false)],tF ?_,rfl,rfl,rfl⟩
   simp (disch:=omega)only[go_sem,vN,AP.f234L0,g,e4,ln]
 | n :: q, p, hp => by
   have hlen:l.length=p.length+(q.length+1):=by rw[hp];simp
   have ln:=rd.len
   rw[pP]at ln
   simp only[I]at ln
   obtain⟨ad,a1,a2⟩:=rd.xg
   have b1:=a1 p.length ⟨by omega,by omega⟩
   have b2:=a2 h (Ext.refl h) p.length n (by rw[hp];simp)
   have k1:=KQ h n
   have ih:=Ey (F:=F) hn h g e4 rd q (p++[n]) (by rw[hp];simp)
   have w1:(((p++[n]).length:Nat):Int)=(p.length:Int)+1:=by simp
   rw[w1]at ih
   rw[XG]
   cases hn:zm n with
   | false =>
     rw[hn]at k1
     refine .inr ⟨[(2,.bool false)],uc ?_,rfl,rfl⟩
     clear ih rd a1 a2 hp
     simp (disch:=omega)only[go_sem,vN,AP.f234L0,g,e4,ln,b1,b2,k1]
   | true =>
     rw[hn]at k1
     rw[Xj]
     have step:aM (aS AP.A) bB AP.f234L0 (ax [(1,.aC b 0),(3,F),(4,.int .i64 p.length)] [1,3,4]) h=some (.normal,[(1,.aC b 0),(3,F),(4,.int .i64 ((p.length:Int)+1))],h):=by
      clear ih rd a1 a2 hp
      simp (disch:=omega)only[go_sem,vN,AP.f234L0,g,e4,ln,b1,b2,k1]
     rcases ih with ⟨e',r1,r2⟩|⟨e',r1,r2⟩
     · exact .inl ⟨e',tG step r1,r2⟩
     · exact .inr ⟨e',tG step r1,r2⟩
theorem Ha:AP.f234.body=.seq (at_ 0 AP.f234.body) (.seq (at_ 1 AP.f234.body) (.seq (at_ 2 AP.f234.body) (DO 3 AP.f234.body))):=rfl
theorem Hb {G : H} {P : Nat} {C : List AV} {s d : Int} (g : G.get P = some C) (e1 : C[1]? = some (.int .i64 s)) (e2 : C[2]? = some (.int .i64 d)) : aM (aS AP.A) bB (at_ 1 AP.f234.body) [(1, .aC P 0)] G = if (wU s && (wU d && !decide (s = d))) = true then some (.normal, [(1, .aC P 0)], G) else some (.ret, [(2, .bool false)], G) := by
 by_cases c1:0≤s
 · by_cases c2:s<4
   · by_cases c3:0≤d
     · by_cases c4:d<4
       · by_cases c5:s=d
         · rw[if_neg (by simp [c5])]
           simp (disch:=omega)only[go_sem,vN,AP.f234,wM,wD,g,e1,e2]
         · rw[if_pos (by simp [wU,c1,c2,c3,c4,c5])]
           simp (disch:=omega)only[go_sem,vN,AP.f234,wM,wD,g,e1,e2]
       · rw[if_neg (by simp [wU,c4])]
         simp (disch:=omega)only[go_sem,vN,AP.f234,wM,wD,g,e1,e2]
     · rw[if_neg (by simp [wU,c3])]
       simp (disch:=omega)only[go_sem,vN,AP.f234,wM,wD,g,e1,e2]
   · rw[if_neg (by simp [wU,c2])]
     simp (disch:=omega)only[go_sem,vN,AP.f234,wM,wD,g,e1,e2]
 · rw[if_neg (by simp [wU,c1])]
   simp (disch:=omega)only[go_sem,vN,AP.f234,wM,wD,g,e1,e2]
theorem LK (G:H) (x:wJ) (o:zS G x) (P:Nat) (hP:G.floor≤P) (hf:G.floor≤G.next) (g:G.get P=some (vH x)) (F:Bool):∃(e:Env) (H2:H),aM (aS AP.A) bB (DO 3 AP.f234.body) [(1,.aC P 0),(3,.bool F)] G=some (.ret,e,H2)∧look e 2=.bool (F&&xu x.m):=by
 have e3:(vH x)[3]?=some (.int .i64 x.m.root):=rfl
 have e4:(vH x)[4]?=some x.vd:=rfl
 have e5:(vH x)[5]?=some x.vb:=rfl
 have e6:(vH x)[6]?=some x.vf:=rfl
 have e7:(vH x)[7]?=some x.vn:=rfl
 have e8:(vH x)[8]?=some x.ve:=rfl
 have zd:=o.zd
 have zb:=o.zb
 have ze:=o.ze
 by_cases h0:x.m.kind=0
 · have e0:(vH x)[0]?=some (.int .i64 0):=by rw[←h0];rfl
   have ek:xu x.m=zm x.m.root:=by unfold xu;rw[if_pos h0]
   have k1:=KQ G x.m.root
   rw[ek]
   refine⟨[(2,.bool (F&&zm x.m.root))],G, ?_,rfl⟩
   clear o ek
   generalize zm x.m.root=B at *
   generalize vH x=C at *
   cases F<;>simp (disch:=omega)only[go_sem,vN,AP.f234,yK,yL,g,e0,e3,k1]
 by_cases h1:x.m.kind=1
 · have e0:(vH x)[0]?=some (.int .i64 1):=by rw[←h1];rfl
   have ek:xu x.m=(decide (x.m.wS.length=8)&&x.m.wS.all zm):=by unfold xu;rw[if_neg h0,if_pos h1]
   have ld:=o.rd.len
   rw[pP]at ld
   simp only[I]at ld
   rw[ek]
   rcases Ey (F:=.bool F) (by omega) G g e4 o.rd x.m.wS [] rfl with ⟨e',r1,r2,r3,r4⟩|⟨e',r1,r2,r3⟩
   · have r1':Lp AP.A [1,3,4] AP.f234L0 [(1,.aC P 0),(3,.bool F),(4,.int .i64 0)] G=some (.exit 1,e',G):=r1
     rw[r4,XL]
     refine⟨[(2,.bool (F&&decide (x.m.wS.length=8)))],G, ?_,rfl⟩
     clear o ek r1 r4
     generalize vH x=C at *
     by_cases c:x.m.wS.length=8<;>cases F<;>simp (disch:=omega)only[go_sem,vN,AP.f234,yK,yL,g,e0,e4,ld,sF,r1',r2,r3]
   · have r1':Lp AP.A [1,3,4] AP.f234L0 [(1,.aC P 0),(3,.bool F),(4,.int .i64 0)] G=some (.ret,e',G):=r1
     rw[r3,Xi,Xi]
     refine⟨e',G, ?_,r2⟩
     clear o ek r1 r3
     generalize vH x=C at *
     simp (disch:=omega)only[go_sem,vN,AP.f234,yK,yL,g,e0,e4,ld,sF,r1']
 by_cases h2:x.m.kind=2
 · have e0:(vH x)[0]?=some (.int .i64 2):=by rw[←h2];rfl
   have ek:xu x.m=(decide (1≤x.m.wX.length)&&(yE x.m.wX&&(xe none (x.m.vR.map (·.1))&&(decide (x.m.vR.length≤6)&&x.m.vR.all fun b=>xn b.2)))):=by unfold xu;rw[if_neg h0,if_neg h1,if_pos h2]
   have lb:=o.rb.len
   rw[pP]at lb
   simp only[I]at lb
   have k1:=Hl G x.vb x.m.wX o.rb (by omega)
   have k2:=SJ G o
   rw[ek]
   generalize (xe none (x.m.vR.map (·.1))&&(decide (x.m.vR.length≤6)&&x.m.vR.all fun b=>xn b.2))=B2 at *
   refine⟨[(2,.bool (F&&(decide (1≤x.m.wX.length)&&(yE x.m.wX&&B2))))],G, ?_,rfl⟩
   clear o ek
   generalize yE x.m.wX=B at *
   generalize vH x=C at *
   by_cases c:1≤x.m.wX.length<;>cases F<;>cases B<;>simp (disch:=omega)only[go_sem,vN,AP.f234,yK,yL,g,e0,e5,e6,lb,k1,k2]
 by_cases h3:x.m.kind=3
 · have e0:(vH x)[0]?=some (.int .i64 3):=by rw[←h3];rfl
   have ek:xu x.m=(xe none x.m.names&&(decide (1≤x.m.names.length)&&decide (x.m.names.length≤6))):=by unfold xu;rw[if_neg h0,if_neg h1,if_neg h2,if_pos h3]
   have k1:=R0 G (by have:=o.zn;omega) o.zs.1 o.rn
   rw[ek]
   refine⟨[(2,.bool (F&&(xe none x.m.names&&(decide (1≤x.m.names.length)&&decide (x.m.names.length≤6)))))],G, ?_,rfl⟩
   clear o ek
   generalize (xe none x.m.names&&(decide (1≤x.m.names.length)&&decide (x.m.names.length≤6)))=B at *
   generalize vH x=C at *
   cases F<;>simp (disch:=omega)only[go_sem,vN,AP.f234,yK,yL,g,e0,e7,k1]
 by_cases h4:x.m.kind=4
 · have e0:(vH x)[0]?=some (.int .i64 4):=by rw[←h4];rfl
   have ek:xu x.m=(decide (1≤x.m.wT.length)&&xa x.m.wT):=by unfold xu;rw[if_neg h0,if_neg h1,if_neg h2,if_neg h3,if_pos h4]
   obtain⟨H1,eH1⟩:∃g,g=(G.alloc [.aQ]).set G.next [x.ve]:=⟨_,rfl⟩
   have xH:Ext G H1:=fun i c q=>by have:=G.lt _ _ q;rw[eH1,vL (by omega),vS (by omega)];exact q
   have gA:(G.alloc [.aQ]).get G.next=some [.aQ]:=vO rfl
   have gN:H1.get G.next=some [x.ve]:=by rw[eH1,vP rfl,gA];rfl
   have gP:H1.get P=some (vH x):=xH _ _ g
   have sv:=o.sc.2.2.2.2
   have cv:=xm sv
   have st:ur (G.alloc [.aQ]) G.next 0 1 [x.ve] (some [.aQ])=some H1:=by rw[uK (by simpa using hf) (by simp) sv,eH1];rfl
   have o1:=o.mono xH
   have le:=o.re.len
   rw[show x.es.length=x.m.wT.length by rw[←o.he];simp]at le
   have k1:=Bq H1 x.ve x.es sv (by
    have:x.es.length=x.m.wT.length:=by rw[←o.he];simp
    omega) o1.re o1.ve
   rw[o.he]at k1
   rw[ek]
   refine⟨[(2,.bool (F&&(decide (1≤x.m.wT.length)&&xa x.m.wT)))],H1, ?_,rfl⟩
   clear o o1 ek xH eH1
   generalize xa x.m.wT=B at *
   generalize vH x=C at *
   by_cases c:1≤x.m.wT.length<;>cases F<;>simp (disch:=omega)only[go_sem,vN,AP.f234,yK,yL,g,e0,e8,sv,cv,gA,st,gN,gP,wZ,le,k1]
 have ek:xu x.m=false:=HO (by omega)
 have e0:(vH x)[0]?=some (.int .i64 x.m.kind):=rfl
 rw[ek,Xi]
 refine⟨[(2,.bool false)],G, ?_,rfl⟩
 clear o ek
 generalize vH x=C at *
 simp (disch:=omega)only[go_sem,vN,AP.f234,yK,yL,g,e0]
theorem LJ (h : H) (x : wJ) (o : zS h x) : aS AP.A 234 [.agg (vH x)] h = some (.bool (zE x.m), h) := by
 obtain⟨h1,eh1⟩:∃g,g=h.dY.alloc (vH x):=⟨_,rfl⟩
 have x1:Ext h h1:=fun i c q=>by rw[eh1];exact((Ext.refl h.dY).alloc _) i c q
 have g1:h1.get h.next=some (vH x):=by rw[eh1];exact vO rfl
 have n0:h.dY.next=h.next:=rfl
 have o1:=o.mono x1
 have cC:=xG o
 have lC:(vH x).length=9:=rfl
 have b0:aM (aS AP.A) bB (at_ 0 AP.f234.body) (params 0 [.agg (vH x)]) h.dY=some (.normal,[(1,.aC h.next 0)],h1):=by
  generalize vH x=C at *
  clear o o1 x1
  simp (disch:=omega)only[go_sem,vN,AP.f234,wD,lC,cC,n0,←eh1]
 have b1:=Hb g1 (s:=x.m.src) (d:=x.m.dst) rfl rfl
 have eA:zE x.m=((wU x.m.src&&(wU x.m.dst&& !decide (x.m.src=x.m.dst)))&&(xu x.m&&yk x.m)):=rfl
 obtain⟨e,hZ,hh,hl⟩:∃e hZ,aM (aS AP.A) bB AP.f234.body (params 0 [.agg (vH x)]) h.dY=some (.ret,e,hZ)∧look e 2=.bool (zE x.m):=by
  rw[Ha,eA]
  generalize (wU x.m.src&&(wU x.m.dst&& !decide (x.m.src=x.m.dst)))=N at *
  cases N with
  | false =>
    rw[if_neg (by decide)]at b1
    refine⟨_,h1,by rw[rZ,b0,sY,rZ,b1,sZ],rfl⟩
  | true =>
    rw[if_pos rfl]at b1
    have k1:=RP h1 x o1
    have b2:aM (aS AP.A) bB (at_ 2 AP.f234.body) [(1,.aC h.next 0)] h1=some (.normal,[(1,.aC h.next 0),(3,.bool (yk x.m))],h1):=by
     have tC:List.take 9 (vH x)=vH x:=rfl
     generalize vH x=C at *
     clear o o1 x1
     simp (disch:=omega)only[go_sem,vN,AP.f234,wM,wD,g1,lC,CA,wL,tC,Xf,k1]
    obtain⟨e,H2,r1,r2⟩:=LK h1 x o1 h.next (by rw[eh1];simp) (by rw[eh1];simp) g1 (yk x.m)
    refine⟨e,H2,by rw[rZ,b0,sY,rZ,b1,sY,rZ,b2,sY,r1], ?_⟩
    rw[r2,Xj,Bool.and_comm]
 exact uo (fn:=AP.f234) (h2:=hZ) (e:=e) (vs:=[.bool (zE x.m)]) rfl rfl rfl hh (by simp only[AP.f234,cM,nk,hl];rfl) rfl
def Mc (l:List Int):AV:=BE 1 l.length (ints l)
def Sj (l:List ByteArray):AV:=BE 1 l.length (wW l)
def xc (m:Ae):wJ:=⟨m,Mc m.wS,Mc m.wX,Bf m.vR,Sj m.names,GV m.wT,m.vR.map GY,m.wT.map FP⟩
theorem zF (n k:Nat) (cs:List AV):(BE n k cs).sc=true:=by unfold BE;split<;>rfl
structure Ve (m:Ae):Prop where
 d:m.wS.length<1000
 b:m.wX.length<1000
 f:m.vR.length<1000
 n:m.names.length<1000
 e:m.wT.length<1000
 nz:∀s∈m.names,s.size<1000
 fz:∀b∈m.vR,b.1.size<1000∧b.2.length<1000
 ez:∀e∈m.wT,e.name.size<1000∧e.packed.size<1000∧e.vec.length<1000
theorem zr (h:H) {m:Ae} (s:Ve m):zS h (xc m):=by
 have rdi:∀l:List Int,Rd h (Mc l) (ints l):=fun l=>by
  have:=A6 (n:=1) (k:=l.length) (h:=h) (cs:=ints l) (by rw[pP];omega)
  exact⟨by rw[pP];exact this.1,this.2.2⟩
 have d:=s.d
 have b:=s.b
 have f:=s.f
 have n:=s.n
 have e:=s.e
 refine⟨rdi _,rdi _,Fz h fun b hb=>by have:=(s.fz b hb).2;omega,(by show(m.vR.map GY).map (·.1)=_;rw[List.map_map];exact List.map_id _), ?_,HJ h _,(by show(m.wT.map FP).map (·.1)=_;rw[List.map_map];exact List.map_id _),fun y hy=> ?_,fun y hy=> ?_,⟨zF _ _ _,zF _ _ _,zF _ _ _,zF _ _ _,HK _⟩,by show m.wS.length<_;omega,by show m.wX.length<_;omega,by show m.vR.length<_;omega,by show m.names.length<_;omega,by show m.wT.length<_;omega,⟨fun t ht=>by have:=s.nz t ht;omega,fun t ht=>by have:=(s.fz t ht).1;omega⟩⟩
 · have:=A6 (n:=1) (k:=m.names.length) (h:=h) (cs:=wW m.names) (by rw[wA];omega)
   exact⟨by rw[wA];exact this.1,this.2.2⟩
 · obtain⟨x,hx,rfl⟩:=Xl.1 hy
   have:=s.ez x hx
   exact⟨⟨yh h x.vec,by show x.vec.length<_;omega,by show x.name.size<_;omega,by show x.packed.size<_;omega⟩,rfl⟩
 · obtain⟨x,hx,rfl⟩:=Xl.1 hy
   rfl
theorem Sk:Ve zw:=⟨by decide,by decide,by decide,by decide,by decide,fun s h=>(by cases h),fun s h=>(by cases h),fun s h=>(by cases h)⟩
def xb (L:List wR) (f t:Int):Ae×Int:=if xa L=true∧(wU f=true∧wU t=true∧f≠t)then(⟨0,f,t,wG (vY L),[],[],[],[],[]⟩,0)else(zw,2200)
theorem EX (L:List wR) (f t:Int):Ve (xb L f t).1:=by
 unfold xb
 split
 · exact⟨by show(0:Nat)<_;omega,by show(0:Nat)<_;omega,by show(0:Nat)<_;omega,by show(0:Nat)<_;omega,by show(0:Nat)<_;omega,fun s h=>(by cases h),fun s h=>(by cases h),fun s h=>(by cases h)⟩
 · exact Sk
theorem Ka (L:List wR) (f t:Int):vH (xc (xb L f t).1)=[.int .i64 (xb L f t).1.kind,.int .i64 (xb L f t).1.src,.int .i64 (xb L f t).1.dst,.int .i64 (xb L f t).1.root,.aQ,.aQ,.aQ,.aQ,.aQ]:=by
 unfold xb
 split<;>rfl
theorem EY (h : H) (v : AV) (l : List wc) (sv : v.sc = true) (hn : l.length < 1125899906842624) (rd : xo 9 h v l.length (vW l)) (hv : ∀ x ∈ l, xw h x ∧ x.2.sc = true) (f t : Int) :
 aS AP.A 238 [.agg [v],.int .i64 f,.int .i64 t] h=some (.bP [.agg (vH (xc (xb (l.map (·.1)) f t).1)),.int .i64 (xb (l.map (·.1)) f t).2],h):=by
 obtain⟨h1,eh1⟩:∃g,g=h.dY.alloc [v]:=⟨_,rfl⟩
 obtain⟨h2,eh2⟩:∃g,g=h1.alloc (vH vV):=⟨_,rfl⟩
 have n0:h.dY.next=h.next:=rfl
 have n1:h1.next=h.next+1:=by rw[eh1];simp
 have n2:h2.next=h.next+2:=by rw[eh2];simp [n1]
 have f2:h2.floor=h.next:=by rw[eh2,eh1];simp
 have x2:Ext h h2:=fun i c q=>by rw[eh2,eh1];exact(((Ext.refl h.dY).alloc _).alloc _) i c q
 have g1:h2.get h.next=some [v]:=by rw[eh2,vS (by omega),eh1];exact vO rfl
 have gR:h2.get (h.next+1)=some (vH vV):=by rw[eh2,vO (by omega)]
 have z2:h1.alloc (vH vV)=h2:=eh2.symm
 have cz:AV.aB (vH vV)=true:=rfl
 have rd2:=rd.mono fun i c q=>x2 i c q
 have hv2:∀x∈l,xw h2 x∧x.2.sc=true:=fun x hx=>⟨(hv x hx).1.mono x2,(hv x hx).2⟩
 have fin:∀(h3:H) (m:Ae) (e:Int),(∀g:Nat→Option (List AV),(fK (snap g h.next 14 true) (vH (xc m)))=some (vH (xc m)))→h3.get (h.next+1)=some (vH (xc m))→aM (aS AP.A) bB AP.f238.body (params 0 [.agg [v],.int .i64 f,.int .i64 t]) h.dY=some (.ret,[(6,.aC (h.next+1) 0),(7,.int .i64 e)],h3)→
  aS AP.A 238 [.agg [v],.int .i64 f,.int .i64 t] h=some (.bP [.agg (vH (xc m)),.int .i64 e],h):=fun h3 m e hs hg hb=>by
  refine uo (fn:=AP.f238) (h2:=h3) (e:=[(6,.aC (h.next+1) 0),(7,.int .i64 e)]) (vs:=[.agg (vH (xc m)),.int .i64 e]) rfl rfl rfl hb (by simp only[AP.f238,cM,nk,mU,lF,ne_eq,Nat.reduceEqDiff,not_false_eq_true,qQ,hg,tu];rfl) ?_
  show(fK (snap h3.get h.next 15 true) [.agg (vH (xc m)),.int .i64 e]).bind _=_
  have s1:snap h3.get h.next 15 true (.agg (vH (xc m)))=some (.agg (vH (xc m))):=by
   show(fK (snap h3.get h.next 14 true) (vH (xc m))).bind _=_
   rw[hs];rfl
  simp only[fK,s1];rfl
 have sn:∀(a b c d:Int) (g:Nat→Option (List AV)),fK (snap g h.next 14 true) [.int .i64 a,.int .i64 b,.int .i64 c,.int .i64 d,.aQ,.aQ,.aQ,.aQ,.aQ]=some [.int .i64 a,.int .i64 b,.int .i64 c,.int .i64 d,.aQ,.aQ,.aQ,.aQ,.aQ]:=fun a b c d g=>rfl
 have eC:=Ka (l.map (·.1)) f t
 refine(fun q:∃h3,h3.get (h.next+1)=some (vH (xc (xb (l.map (·.1)) f t).1))∧aM (aS AP.A) bB AP.f238.body (params 0 [.agg [v],.int .i64 f,.int .i64 t]) h.dY=some (.ret,[(6,.aC (h.next+1) 0),(7,.int .i64 (xb (l.map (·.1)) f t).2)],h3)=>q.elim fun h3 q=>fin h3 _ _ (fun g=>by rw[eC];exact sn _ _ _ _ g) q.1 q.2) ?_
 clear fin sn
 have stz:∀{h3:H},h3.floor=h.next→h3.get (h.next+1)=some (vH vV)→ur h3 (h.next+1) 0 9 (vH vV) (some (vH vV))=some h3:=fun hf hg=>by rw[wH (n:=9) (by omega) rfl rfl rfl,H.jI hg]
 have z0:([.int .i64 0,.int .i64 0,.int .i64 0,.int .i64 0,.aQ,.aQ,.aQ,.aQ,.aQ]:List AV)=vH vV:=rfl
 by_cases hm:xa (l.map (·.1))=true
 · obtain⟨i,h3,k1,gi,x3,f3,n3,_⟩:=Pm h2 (by omega) v l sv hn rd2 hv2 hm
   have gR3:=x3 _ _ gR
   have q1:=Dh h3 f
   have q2:=Dh h3 t
   have st:=stz (h3:=h3) (by omega) gR3
   by_cases c:wU f=true∧wU t=true∧f≠t
   · have eo:xb (l.map (·.1)) f t=(⟨0,f,t,wG (vY (l.map (·.1))),[],[],[],[],[]⟩,0):=by unfold xb;rw[if_pos ⟨hm,c⟩]
     rw[eo]
     obtain⟨c1,c2,c3⟩:=c
     rw[c1]at q1
     rw[c2]at q2
     have k2:=Kv h3 (.aD i 0 8 1) (vY (l.map (·.1))) (Rd.obj gi (wh _)) (by rw[wh];omega)
     unfold Dw at k2
     rw[CZ,wh,dt rfl,Xr,if_pos rfl]at k2
     obtain⟨Y,hY⟩:∃Y,Y=vH (xc ⟨0,f,t,wG (vY (l.map (·.1))),[],[],[],[],[]⟩):=⟨_,rfl⟩
     rw[←hY]
     have fy:dZ (vH vV) [(0,1,.int .i64 0),(1,1,.int .i64 f),(2,1,.int .i64 t),(3,1,.int .i64 (wG (vY (l.map (·.1)))))]=some Y:=by rw[hY];rfl
     have st2:ur h3 (h.next+1) 0 9 Y (some (vH vV))=some (h3.set (h.next+1) Y):=wH (by omega) (by rw[hY];rfl) rfl (by rw[hY];rfl)
     refine⟨h3.set (h.next+1) Y,by rw[vP rfl,gR3];rfl, ?_⟩
     clear rd rd2 hv hv2 x2 x3 hY eC eo
     generalize wG (vY (l.map (·.1)))=R at *
     generalize vH vV=Z at *
     simp (disch:=omega)only[go_sem,yH,Cu,wL,AQ,qh,rP,XL,Xj,Xr,dt,df,J9,K3,K2,W9,Xa,vk,Xq,Xk,Xx,AP.f238,sv,n0,←eh1,n1,cz,z2,g1,wZ,k1,q1,q2,k2,fy,gR3,st2,z0]
   · have eo:xb (l.map (·.1)) f t=(zw,2200):=by unfold xb;rw[if_neg (fun q=>c q.2)]
     rw[eo]
     refine⟨h3,gR3, ?_⟩
     clear rd rd2 hv hv2 x2 x3 eC eo stz
     have cc:wU f=false∨wU f=true∧wU t=false∨wU f=true∧wU t=true∧f=t:=by
      cases a:wU f<;>cases b:wU t<;>simp_all
     generalize vH vV=Z at *
     rcases cc with c1|⟨c1,c2⟩|⟨c1,c2,c3⟩
     · rw[c1]at q1
       simp (disch:=omega)only[go_sem,vN,AP.f238,sv,n0,←eh1,n1,cz,z2,g1,wZ,k1,q1,q2,gR3,z0,st]
     · rw[c1]at q1
       rw[c2]at q2
       simp (disch:=omega)only[go_sem,vN,AP.f238,sv,n0,←eh1,n1,cz,z2,g1,wZ,k1,q1,q2,gR3,z0,st]
     · rw[c1]at q1
       rw[c2]at q2
       simp (disch:=omega)only[go_sem,vN,AP.f238,sv,n0,←eh1,n1,cz,z2,g1,wZ,k1,q1,q2,gR3,z0,st]
 · have hm':xa (l.map (·.1))=false:=by simpa using hm
   obtain⟨h3,k1,x3,f3,n3⟩:=Pl h2 (by omega) v l sv hn rd2 hv2 hm'
   have gR3:=x3 _ _ gR
   have st:=stz (h3:=h3) (by omega) gR3
   have eo:xb (l.map (·.1)) f t=(zw,2200):=by unfold xb;rw[if_neg (fun q=>hm q.1)]
   rw[eo]
   refine⟨h3,gR3, ?_⟩
   clear rd rd2 hv hv2 x2 x3 eC eo stz
   generalize vH vV=Z at *
   simp (disch:=omega)only[go_sem,vN,AP.f238,sv,n0,←eh1,n1,cz,z2,g1,wZ,k1,gR3,z0,st]
set_option maxHeartbeats 4000000 in
theorem Gh (h:H) (v:AV) (l:List wc) (sv:v.sc=true) (hn:l.length<1125899906842624) (rd:xo 9 h v l.length (vW l)) (hv:∀x∈l,xw h x∧x.2.sc=true) (hm:xa (l.map (·.1))=true):aS AP.A 276 [.agg [v]] h=some (.int .i64 (wG (vY (l.map (·.1)))),h):=by
 obtain⟨h1,eh1⟩:∃g,g=h.dY.alloc [v]:=⟨_,rfl⟩
 have n0:h.dY.next=h.next:=rfl
 have x1:Ext h h1:=fun i c q=>by rw[eh1];exact((Ext.refl h.dY).alloc _) i c q
 have g1:h1.get h.next=some [v]:=by rw[eh1];exact vO rfl
 have k1:=HB h1 v l sv hn (rd.mono fun i c q=>x1 i c q) (fun x hx=>⟨(hv x hx).1.mono x1,(hv x hx).2⟩)
 unfold HC at k1
 rw[if_pos hm]at k1
 have k2:=LY h1 (wB (vY (l.map (·.1)))) (vY (l.map (·.1))) (yh _ _) (by rw[wh];omega)
 unfold Dw at k2
 rw[CZ,wh,dt rfl,Xr,if_pos rfl]at k2
 clear rd hv x1
 generalize wG (vY (l.map (·.1)))=R at *
 refine uo (fn:=AP.f276) (h2:=h1) (e:=[(2,.int .i64 R)]) rfl rfl rfl ?_ rfl rfl
 generalize wB (vY (l.map (·.1)))=D at *
 simp (disch:=omega)only[go_sem,vN,AP.f276,sv,n0,←eh1,g1,wZ,k1,k2]
theorem Kb (h : H) (v : AV) (l : List wc) (sv : v.sc = true) (hn : l.length < 1125899906842624) (rd : xo 9 h v l.length (vW l)) (hv : ∀ x ∈ l, xw h x ∧ x.2.sc = true) (f t : Int) :
 aS AP.A 239 [.agg [v],.int .i64 f,.int .i64 t] h=some (.bP [.agg (vH (xc (xb (l.map (·.1)) f t).1)),.int .i64 (xb (l.map (·.1)) f t).2],h):=by
 obtain⟨h1,eh1⟩:∃g,g=h.dY.alloc [v]:=⟨_,rfl⟩
 obtain⟨h2,eh2⟩:∃g,g=h1.alloc (vH vV):=⟨_,rfl⟩
 have n0:h.dY.next=h.next:=rfl
 have n1:h1.next=h.next+1:=by rw[eh1];simp
 have f2:h2.floor=h.next:=by rw[eh2,eh1];simp
 have x2:Ext h h2:=fun i c q=>by rw[eh2,eh1];exact(((Ext.refl h.dY).alloc _).alloc _) i c q
 have g1:h2.get h.next=some [v]:=by rw[eh2,vS (by omega),eh1];exact vO rfl
 have gR:h2.get (h.next+1)=some (vH vV):=by rw[eh2,vO (by omega)]
 have z2:h1.alloc (vH vV)=h2:=eh2.symm
 have cz:AV.aB (vH vV)=true:=rfl
 have rd2:=rd.mono fun i c q=>x2 i c q
 have hv2:∀x∈l,xw h2 x∧x.2.sc=true:=fun x hx=>⟨(hv x hx).1.mono x2,(hv x hx).2⟩
 have k1:=Bq h2 v l sv hn rd2 hv2
 have fin:∀(h3:H) (m:Ae) (e:Int),(∀g:Nat→Option (List AV),(fK (snap g h.next 14 true) (vH (xc m)))=some (vH (xc m)))→h3.get (h.next+1)=some (vH (xc m))→aM (aS AP.A) bB AP.f239.body (params 0 [.agg [v],.int .i64 f,.int .i64 t]) h.dY=some (.ret,[(6,.aC (h.next+1) 0),(7,.int .i64 e)],h3)→
  aS AP.A 239 [.agg [v],.int .i64 f,.int .i64 t] h=some (.bP [.agg (vH (xc m)),.int .i64 e],h):=fun h3 m e hs hg hb=>by
  refine uo (fn:=AP.f239) (h2:=h3) (e:=[(6,.aC (h.next+1) 0),(7,.int .i64 e)]) (vs:=[.agg (vH (xc m)),.int .i64 e]) rfl rfl rfl hb (by simp only[AP.f239,cM,nk,mU,lF,ne_eq,Nat.reduceEqDiff,not_false_eq_true,qQ,hg,tu];rfl) ?_
  show(fK (snap h3.get h.next 15 true) [.agg (vH (xc m)),.int .i64 e]).bind _=_
  have s1:snap h3.get h.next 15 true (.agg (vH (xc m)))=some (.agg (vH (xc m))):=by
   show(fK (snap h3.get h.next 14 true) (vH (xc m))).bind _=_
   rw[hs];rfl
  simp only[fK,s1];rfl
 have sn:∀(a b c d:Int) (g:Nat→Option (List AV)),fK (snap g h.next 14 true) [.int .i64 a,.int .i64 b,.int .i64 c,.int .i64 d,.aQ,.aQ,.aQ,.aQ,.aQ]=some [.int .i64 a,.int .i64 b,.int .i64 c,.int .i64 d,.aQ,.aQ,.aQ,.aQ,.aQ]:=fun a b c d g=>rfl
 have eC:=Ka (l.map (·.1)) f t
 refine(fun q:∃h3,h3.get (h.next+1)=some (vH (xc (xb (l.map (·.1)) f t).1))∧aM (aS AP.A) bB AP.f239.body (params 0 [.agg [v],.int .i64 f,.int .i64 t]) h.dY=some (.ret,[(6,.aC (h.next+1) 0),(7,.int .i64 (xb (l.map (·.1)) f t).2)],h3)=>q.elim fun h3 q=>fin h3 _ _ (fun g=>by rw[eC];exact sn _ _ _ _ g) q.1 q.2) ?_
 clear fin sn
 have st:ur h2 (h.next+1) 0 9 (vH vV) (some (vH vV))=some h2:=by rw[wH (n:=9) (by omega) rfl rfl rfl,H.jI gR]
 have z0:([.int .i64 0,.int .i64 0,.int .i64 0,.int .i64 0,.aQ,.aQ,.aQ,.aQ,.aQ]:List AV)=vH vV:=rfl
 by_cases ok:xa (l.map (·.1))=true∧(wU f=true∧wU t=true∧f≠t)
 · have eo:xb (l.map (·.1)) f t=(⟨0,f,t,wG (vY (l.map (·.1))),[],[],[],[],[]⟩,0):=by unfold xb;rw[if_pos ok]
   rw[eo]
   obtain⟨hm,c1,c2,c3⟩:=ok
   rw[hm]at k1
   have k2:=Gh h2 v l sv hn rd2 hv2 hm
   simp only[wU,u9,Xh]at c1 c2
   obtain⟨a1,a2⟩:=c1
   obtain⟨a3,a4⟩:=c2
   obtain⟨Y,hY⟩:∃Y,Y=vH (xc ⟨0,f,t,wG (vY (l.map (·.1))),[],[],[],[],[]⟩):=⟨_,rfl⟩
   rw[←hY]
   have fy:dZ (vH vV) [(1,1,.int .i64 f),(2,1,.int .i64 t),(3,1,.int .i64 (wG (vY (l.map (·.1)))))]=some Y:=by rw[hY];rfl
   have st2:ur h2 (h.next+1) 0 9 Y (some (vH vV))=some (h2.set (h.next+1) Y):=wH (by omega) (by rw[hY];rfl) rfl (by rw[hY];rfl)
   refine⟨h2.set (h.next+1) Y,by rw[vP rfl,gR];rfl, ?_⟩
   clear rd rd2 hv hv2 x2 hY eC eo st
   generalize wG (vY (l.map (·.1)))=R at *
   generalize vH vV=Z at *
   simp (disch:=omega)only[go_sem,yH,Cu,wL,AQ,qh,rP,XL,Xj,Xr,dt,df,J9,K3,K2,W9,Xa,vk,Xq,Xk,Xx,AP.f239,sv,n0,←eh1,n1,cz,z2,g1,wZ,k1,k2,fy,gR,st2,z0]
 · have eo:xb (l.map (·.1)) f t=(zw,2200):=by unfold xb;rw[if_neg ok]
   rw[eo]
   refine⟨h2,gR, ?_⟩
   have cc:xa (l.map (·.1))=false∨xa (l.map (·.1))=true∧(f<0∨0≤f∧(4≤f∨f<4∧(t<0∨0≤t∧(4≤t∨t<4∧f=t)))):=by
    cases a:xa (l.map (·.1))with
    |false=>exact .inl rfl
    | true =>
      refine .inr ⟨rfl, ?_⟩
      simp only[a,wU,u9,Xh,true_and,ne_eq]at ok
      omega
   clear rd rd2 hv hv2 x2 eC eo ok
   generalize vH vV=Z at *
   rcases cc with c1|⟨c1,cc⟩
   · rw[c1]at k1
     simp (disch:=omega)only[go_sem,vN,AP.f239,sv,n0,←eh1,n1,cz,z2,g1,wZ,k1,gR,z0,st]
   · rw[c1]at k1
     rcases cc with c|⟨c0,c|⟨c1,c|⟨c2,c|⟨c3,c⟩⟩⟩⟩<;>simp (disch:=omega)only[go_sem,vN,AP.f239,sv,n0,←eh1,n1,cz,z2,g1,wZ,k1,gR,z0,st]
def Cj:List Int→List Int→Bool
 |x::a,y::b=>decide (y<x)||Cj a b
 |_,_=>false
def AL:List Int→List Int→Bool
 |x::a,y::b=>decide (x<y)||AL a b
 |_,_=>false
theorem D7 : ∀ {a b : List Int}, a.length = b.length → decide (zj a b = a) = !AL a b
 |[],[],_=>rfl
 |[],_::_,h=>by cases h
 |_::_,[],h=>by cases h
 | x :: a, y :: b, h => by
   have ih:=D7 (a:=a) (b:=b) (by simpa using h)
   unfold AL
   have e:zj (x::a) (y::b)=xJ x y::zj a b:=rfl
   rw[e]
   by_cases c:x<y
   · rw[dt c,df]
     · rfl
     · intro q
       have:=(XM q).1
       unfold xJ at this
       split at this<;>omega
   · have m:xJ x y=x:=by unfold xJ;split<;>omega
     rw[df c,m,Bool.false_or,←ih]
     by_cases q:zj a b=a
     · rw[dt q,dt (by rw[q])]
     · rw[df q,df (fun w=>q (XM w).2)]
theorem F7 {v w:AV} {a b:List Int} (hab:a.length=b.length) (hl:a.length<1000) (h:H) (ra:Rd h v (ints a)) (rb:Rd h w (ints b)):∀(q r p p':List Int),a=p++q→b=p'++r→p.length=p'.length→∀(m s:Bool),
 ∃e',Lp AP.A [0,1,6,7,8] AP.f279L0 [(0,v),(1,w),(6,.bool m),(7,.bool s),(8,.int .i64 p.length)] h=some (.exit 0,e',h)∧look e' 6=.bool (m||Cj q r)∧look e' 7=.bool (s||AL q r)
 | [], r, p, p', hp, hp', hpp, m, s => by
   rw[Xe]at hp;subst hp
   have ln:=ra.len
   rw[pP]at ln
   simp only[I]at ln
   have hr:r=[]:=Xm (by rw[hp',vF]at hab;omega)
   subst hr
   refine⟨[(0,v),(1,w),(6,.bool m),(7,.bool s),(8,.int .i64 a.length),(20,.bool false)],tF ?_,by simp [Cj,look],by simp [AL,look]⟩
   clear ra rb
   simp (disch:=omega)only[go_sem,vN,AP.f279L0,ln]
 | x :: q, [], p, p', hp, hp', hpp, m, s => by
   rw[hp,hp']at hab;simp at hab;omega
 | x :: q, y :: r, p, p', hp, hp', hpp, m, s => by
   have hlen:a.length=p.length+(q.length+1):=by rw[hp];simp
   have ln:=ra.len
   rw[pP]at ln
   simp only[I]at ln
   obtain⟨ad,a1,a3⟩:=ra.xg
   obtain⟨bd,b1,b3⟩:=rb.xg
   have i1:=a1 p.length ⟨by omega,by omega⟩
   have i2:=a3 h (Ext.refl h) p.length x (by rw[hp];simp)
   have j1:=b1 p.length ⟨by omega,by omega⟩
   have j2:=b3 h (Ext.refl h) p.length y (by rw[hp',hpp];simp)
   obtain⟨e',r1,r2,r3⟩:=F7 hab hl h ra rb q r (p++[x]) (p'++[y]) (by rw[hp];simp) (by rw[hp'];simp) (by simp [hpp]) (m||decide (y<x)) (s||decide (x<y))
   have w1:(((p++[x]).length:Nat):Int)=(p.length:Int)+1:=by simp
   rw[w1]at r1
   refine⟨e',tG ?_ r1,by rw[r2,Cj,Bool.or_assoc],by rw[r3,AL,Bool.or_assoc]⟩
   clear r1 r2 r3 ra rb a1 a3 b1 b3 hp hp'
   by_cases c1:y<x
   · have c2:¬x<y:=by omega
     cases m<;>cases s<;>simp (disch:=omega)only[go_sem,vN,AP.f279L0,ln,i1,i2,j1,j2]
   · by_cases c2:x<y<;>cases m<;>cases s<;>simp (disch:=omega)only[go_sem,vN,AP.f279L0,ln,i1,i2,j1,j2]
def Dj (a b:List Int):Int:=if Cj a b&&AL a b then 3 else if Cj a b then 2 else if AL a b then 1 else 0
theorem Kg (h:H) (v w:AV) (a b:List Int) (ra:Rd h v (ints a)) (rb:Rd h w (ints b)) (ha:xn a=true) (hb:xn b=true):aS AP.A 279 [v,w] h=some (.bP [.int .i64 (Dj a b),.int .i64 0],h):=by
 have la:a.length=4:=by simp only[xn,u9,Xh]at ha;exact ha.1
 have lb:b.length=4:=by simp only[xn,u9,Xh]at hb;exact hb.1
 have raf:Rd h.dY v (ints a):=ra.mono fun i c q=>q
 have rbf:Rd h.dY w (ints b):=rb.mono fun i c q=>q
 have k1:=Ff h.dY v a raf (by omega)
 have k2:=Ff h.dY w b rbf (by omega)
 rw[ha]at k1
 rw[hb]at k2
 obtain⟨e',r1,r2,r3⟩:=F7 (by omega) (by omega) h.dY raf rbf a b [] [] rfl rfl rfl false false
 have r1':Lp AP.A [0,1,6,7,8] AP.f279L0 [(0,v),(1,w),(6,.bool false),(7,.bool false),(8,.int .i64 0)] h.dY=some (.exit 0,e',h.dY):=r1
 rw[Bool.false_or]at r2 r3
 refine uo (fn:=AP.f279) (h2:=h.dY) (e:=[(4,.int .i64 (Dj a b)),(5,.int .i64 0)]) (vs:=[.int .i64 (Dj a b),.int .i64 0]) rfl rfl rfl ?_ rfl rfl
 unfold Dj
 clear ra rb raf rbf r1
 generalize Cj a b=B1 at *
 generalize AL a b=B2 at *
 cases B1<;>cases B2<;>simp only[XL,Xi,u0,if_true,vG]<;>simp (disch:=omega)only[go_sem,vN,AP.f279,k1,k2,sF,r1',r2,r3]
theorem Ke {a b:List Int} (h:a.length=b.length):(Dj a b=0∨Dj a b=2)↔zj a b=a:=by
 have:=D7 h
 unfold Dj
 cases hm:Cj a b<;>cases hl:AL a b<;>rw[hl]at this<;>simp at this<;>simp [this]
theorem B9 {v vf : AV} {l : List wc} {fs : List xx} (h0 : H) (P : Nat) (gP : h0.get P = some [v]) (sv : v.sc = true) (rd : xo 9 h0 v l.length (vW l)) (hv : ∀ x ∈ l, xw h0 x ∧ x.2.sc = true) (hm : xa (l.map (·.1)) = true) (rf : ED h0 vf fs) (fl6 : fs.length ≤ 6) (fv : ∀ b ∈ fs, xn b.1.2 = true) :
 ∀(q p:List xx),fs=p++q→∀(h:H) (ov:AV) (acc:List ByteArray),Ext h0 h→h0.next≤h.next→h.floor=h0.floor→h.floor≤h.next→wo 1 h ov acc.length (wW acc)→(∀j,ov.id?=some j→h0.next≤j)→acc.length≤p.length→
 ∃e' h' ov',Lp AP.A [1,2,5,6] AP.f278L0 [(1,vf),(2,.aC P 0),(5,ov),(6,.int .i64 p.length)] h=some (.exit 0,e',h')∧look e' 5=ov'∧wo 1 h' ov' (acc++xD (l.map (·.1)) (q.map (·.1))).length (wW (acc++xD (l.map (·.1)) (q.map (·.1))))∧h'.floor=h0.floor
 | [], p, hp, h, ov, acc, xh, hn, hf, hfn, o, ho, ha => by
   rw[Xe]at hp;subst hp
   have ln:=rf.rd.len
   refine⟨[(1,vf),(2,.aC P 0),(5,ov),(6,.int .i64 fs.length),(14,.bool false)],h,ov,tF ?_,rfl,by simpa [xD]using o,hf⟩
   clear o rd hv
   simp (disch:=omega)only[go_sem,vN,AP.f278L0,ln]
 | b :: q, p, hp, h, ov, acc, xh, hn, hf, hfn, o, ho, ha => by
   have hlen:fs.length=p.length+(q.length+1):=by rw[hp];simp
   have hb:fs[p.length]?=some b:=by rw[hp];simp
   have hmem:=vi hb
   have ln:=rf.rd.len
   have gP1:=xh _ _ gP
   obtain⟨ad,a1,a2,a4,a3⟩:=rf.rd.at_
   have hI:(0:Int)≤(p.length:Int)∧(p.length:Int)<fs.length:=⟨by omega,by omega⟩
   have b1:=a1 _ hI
   have q0:=a2 p.length 0 0 hI
   have q1:=a2 p.length 0 1 hI
   simp only[vk]at q0 q1
   have l0:=(a3 h fun i c q=>xh i c q).1 p.length 0 (.str b.1.1) hI (by
    rw[xI,show wO fs=fs.flatMap IB from rfl,yS yr hb (by omega)];rfl)
   have l1:=(a3 h fun i c q=>xh i c q).1 p.length 1 b.2 hI (by
    rw[xI,show wO fs=fs.flatMap IB from rfl,yS yr hb (by omega)];rfl)
   have k1:=HX h v l b.1.1 sv (by have:=(wF (xS hm)).1;simp at this;omega) (rd.mono fun i c q=>xh i c q)
   have w1:(((p++[b]).length:Nat):Int)=(p.length:Int)+1:=by simp
   rw[Xk,Ip]
   obtain⟨v',h2,p1,p2,p3,p4,p5,p6⟩:=o.push hfn (z:=16) (m:=1) (by omega) (by omega) [.str b.1.1] rfl rfl (by simp [roomy];omega)
   have ea:wW acc++[.str b.1.1]=wW (acc++[b.1.1]):=by rw[Gt];rfl
   have el:acc.length+1=(acc++[b.1.1]).length:=by simp
   rw[ea,el]at p2
   have yes:yJ (l.map (·.1)) b.1=false→aM (aS AP.A) bB AP.f278L0 (ax [(1,vf),(2,.aC P 0),(5,ov),(6,.int .i64 p.length)] [1,2,5,6]) h=some (.normal,[(1,vf),(2,.aC P 0),(5,v'),(6,.int .i64 ((p.length:Int)+1))],h2)→
    ∃e' h' ov',Lp AP.A [1,2,5,6] AP.f278L0 [(1,vf),(2,.aC P 0),(5,ov),(6,.int .i64 p.length)] h=some (.exit 0,e',h')∧look e' 5=ov'∧wo 1 h' ov' (acc++(if yJ (l.map (·.1)) b.1 then xD (l.map (·.1)) (q.map (·.1))else b.1.1::xD (l.map (·.1)) (q.map (·.1)))).length (wW (acc++(if yJ (l.map (·.1)) b.1 then xD (l.map (·.1)) (q.map (·.1))else b.1.1::xD (l.map (·.1)) (q.map (·.1)))))∧h'.floor=h0.floor:=fun hk step=>by
    rw[hk,if_neg (by decide)]
    obtain⟨e',h',ov',r1,r2,r3,r4⟩:=B9 h0 P gP sv rd hv hm rf fl6 fv q (p++[b]) (by rw[hp];simp) h2 v' (acc++[b.1.1]) (fun i c q3=>by have:=h0.lt _ _ q3;rw[p5 i (fun q2=>by have:=ho i q2;omega) (h.lt _ _ (xh i c q3))];exact xh i c q3) (by omega) (by omega) (by omega) p2 (fun j q2=>by rw[p6]at q2;have:=uS q2;omega) (by simp;omega)
    rw[w1]at r1
    rw[XF,List.singleton_append]at r3
    exact⟨e',h',ov',tG step r1,r2,r3,r4⟩
   cases hp2:(v9 b.1.1 (l.map (·.1))).2 with
   | false =>
     rw[hp2]at k1
     have hk:yJ (l.map (·.1)) b.1=false:=by unfold yJ;rw[hp2];rfl
     refine yes hk ?_
     clear yes rd hv o a1 a2 a3 a4 hp hb hmem xh p2 p5 rf
     generalize (v9 b.1.1 (l.map (·.1))).1=K at *
     simp (disch:=omega)only[go_sem,vN,AP.f278L0,ln,gP1,wZ,b1,q0,l0,k1,p1]
   | true =>
     rw[hp2]at k1
     have lt:=Am _ _ hp2
     rw[Xd]at lt
     obtain⟨z,hz⟩:∃z,l[(v9 b.1.1 (l.map (·.1))).1]?=some z:=⟨l[(v9 b.1.1 (l.map (·.1))).1],by simp⟩
     have hz':(l.map (·.1))[(v9 b.1.1 (l.map (·.1))).1]?=some z.1:=by rw[vq,hz];rfl
     have hzm:=vi hz
     obtain⟨ok,sc⟩:=hv z hzm
     have fz:=Al hm z.1 (Xl.2 ⟨z,hzm,rfl⟩)
     obtain⟨cd,c1,c2⟩:=rd.DY
     obtain⟨pe,_⟩:=c2 h xh _ z hz
     have d1:=c1 (v9 b.1.1 (l.map (·.1))).1 ⟨by omega,by omega⟩
     obtain⟨qq,f1,f2⟩:=pe.tL
     have e2:=f2 h (Ext.refl h) 2 _ rfl
     have vb:=fv b hmem
     have lb:b.1.2.length=4:=by simp only[xn,u9,Xh]at vb;exact vb.1
     have k2:=Kg h z.2 b.2 z.1.vec b.1.2 (ok.vec.mono fun i c q=>xh i c q) ((rf.vec b hmem).1.mono fun i c q=>xh i c q) fz.1 vb
     have hk:yJ (l.map (·.1)) b.1=decide (zj z.1.vec b.1.2=z.1.vec):=by unfold yJ;rw[hp2,hz',Xj]
     have ok2:=Ke (a:=z.1.vec) (b:=b.1.2) (by rw[fz.2.1,lb])
     by_cases c:zj z.1.vec b.1.2=z.1.vec
     · rw[hk,dt c,if_pos rfl]
       have oo:=ok2.2 c
       obtain⟨e',h',ov',r1,r2,r3,r4⟩:=B9 h0 P gP sv rd hv hm rf fl6 fv q (p++[b]) (by rw[hp];simp) h ov acc xh hn hf hfn o ho (by simp;omega)
       rw[w1]at r1
       refine⟨e',h',ov',tG ?_ r1,r2,r3,r4⟩
       clear yes rd hv o a1 a2 a3 a4 hp hb hmem xh p2 p5 rf r1 r2 r3 r4 c1 c2 pe f2 ok hz hz' hzm ok2 hk
       generalize (v9 b.1.1 (l.map (·.1))).1=K at *
       generalize Dj z.1.vec b.1.2=R at *
       rcases oo with oo|oo<;>rw[oo]at k2<;>simp (disch:=omega)only[go_sem,vN,AP.f278L0,ln,gP1,wZ,b1,q0,q1,l0,l1,k1,Xq,d1,f1,e2,k2]
     · refine yes (by rw[hk,df c]) ?_
       have oo:¬(Dj z.1.vec b.1.2=0)∧¬(Dj z.1.vec b.1.2=2):=⟨fun q=>c (ok2.1 (.inl q)),fun q=>c (ok2.1 (.inr q))⟩
       clear yes rd hv o a1 a2 a3 a4 hp hb hmem xh p2 p5 rf c1 c2 pe f2 ok hz hz' hzm ok2 hk
       generalize (v9 b.1.1 (l.map (·.1))).1=K at *
       generalize Dj z.1.vec b.1.2=R at *
       obtain⟨o1,o2⟩:=oo
       simp (disch:=omega)only[go_sem,vN,AP.f278L0,ln,gP1,wZ,b1,q0,q1,l0,l1,k1,Xq,d1,f1,e2,k2,K2 o1,K2 o2,p1]
theorem Eu (g:Nat→Option (List AV)) (fl m:Nat) (t:Bool):∀l:List ByteArray,fK (snap g fl (m+1) t) (wW l)=some (wW l)
 |[]=>rfl
 | s :: l => by
   have:=Eu g fl m t l
   unfold wW at *
   simp only[Xk,fK,this];rfl
theorem wo.Hf {h:H} {v:AV} {l:List ByteArray} {fl m:Nat} {t:Bool} (o:wo 1 h v l.length (wW l)) (hf:fl≤h.floor):snap h.get fl (m+2) t v=some (Sj l):=by
 unfold Sj BE
 obtain⟨q0,⟨q1,q2⟩|⟨j,q1,q2,q3,q4⟩⟩:=o
 · rw[q1,q2];rfl
 · rw[q1,if_neg (by omega)]
   show(if j<fl then _ else _)=_
   rw[if_neg (by omega),q2,uZ,if_pos (by omega),Xf,vA (by omega),Eu]
   rfl
theorem KX (h:H) (v vf:AV) (l:List wc) (fs:List xx) (sv:v.sc=true) (rd:xo 9 h v l.length (vW l)) (hv:∀x∈l,xw h x∧x.2.sc=true) (hm:xa (l.map (·.1))=true) (rf:ED h vf fs) (fl6:fs.length≤6) (fv:∀b∈fs,xn b.1.2=true):
 aS AP.A 278 [.agg [v],vf] h=some (Sj (xD (l.map (·.1)) (fs.map (·.1))),h):=by
 obtain⟨h1,eh1⟩:∃g,g=h.dY.alloc [v]:=⟨_,rfl⟩
 have n0:h.dY.next=h.next:=rfl
 have f1:h1.floor=h.next:=by rw[eh1];simp
 have x1:Ext h h1:=fun i c q=>by rw[eh1];exact((Ext.refl h.dY).alloc _) i c q
 have g1:h1.get h.next=some [v]:=by rw[eh1];exact vO rfl
 obtain⟨e',h',ov,r1,r2,r3,r4⟩:=B9 h1 h.next g1 sv (rd.mono fun i c q=>x1 i c q) (fun x hx=>⟨(hv x hx).1.mono x1,(hv x hx).2⟩) hm (rf.mono x1) fl6 fv fs [] rfl h1 .aQ [] (Ext.refl _) (u6 _) rfl (by rw[eh1];simp) wo.nil (fun j q=>by cases q) (u6 _)
 have r1':Lp AP.A [1,2,5,6] AP.f278L0 [(1,vf),(2,.aC h.next 0),(5,.aQ),(6,.int .i64 0)] h1=some (.exit 0,e',h'):=r1
 rw[List.nil_append]at r3
 have s:=r3.Hf (fl:=h.next) (m:=14) (t:=true) (by omega)
 refine uo (fn:=AP.f278) (h2:=h') (e:=[(4,ov)]) (vs:=[ov]) rfl rfl rfl ?_ rfl s
 clear rd hv rf x1 r1 r3 s
 simp (disch:=omega)only[go_sem,vN,AP.f278,sv,n0,←eh1,sF,r1',r2]
structure Dk (B G:H) (P M O:Nat) (v:AV) (l:List wc) (x:wJ):Prop where
 rd:xo 9 B v l.length (vW l)
 ok:∀z∈l,xw B z∧z.2.sc=true
 fo:xa (l.map (·.1))=true
 ox:zS B x
 gP:G.get P=some [v]
 gM:G.get M=some (vH x)
 ne:P≠O∧M≠O
 Vz:Ext B G
 BO:B.next≤O
 ON:O<G.next
 fO:G.floor≤O
 fG:G.floor≤G.next
theorem Dk.ext {B G h:H} {P M O:Nat} {v:AV} {l:List wc} {x:wJ} (k:Dk B G P M O v l x) (low:∀i c,i≠O→G.get i=some c→h.get i=some c):Ext B h:=fun i c q=>by
 have:=B.lt _ _ q
 have:=k.BO
 exact low i c (by omega) (k.Vz i c q)
theorem Dk.P_ {B G h:H} {P M O:Nat} {v:AV} {l:List wc} {x:wJ} (k:Dk B G P M O v l x) (low:∀i c,i≠O→G.get i=some c→h.get i=some c):h.get P=some [v]∧h.get M=some (vH x):=
 ⟨low P _ k.ne.1 k.gP,low M _ k.ne.2 k.gM⟩
theorem DG {B G : H} {P M O : Nat} {v r4 : AV} {l : List wc} {x y : wJ} (k3 : Dk B G P M O v l x) (l8 : x.m.wS.length = 8) : ∀ (q r p p' : List Int), vY (l.map (·.1)) = p ++ q → x.m.wS = p' ++ r → p.length = p'.length → ∀ (h : H) (ov : AV) (acc : List Int), (∀ i c, i ≠ O → G.get i = some c → h.get i = some c) → G.next ≤ h.next → h.floor = G.floor → h.get O = some (vH { y with vb := ov }) →
 wo 1 h ov acc.length (ints acc)→(∀j,ov.id?=some j→G.next≤j)→acc.length≤p.length→
 ∃ e' h' ov', Lp AP.A [2, 3, 4, 7, 9, 11] AP.f241L0 [(2, .aC P 0), (3, .aC M 0), (4, r4), (7, .aC O 0), (9, wB (vY (l.map (·.1)))), (11, .int .i64 p.length)] h = some (.exit 1, e', h') ∧ look e' 2 = .aC P 0 ∧ look e' 4 = r4 ∧ look e' 7 = .aC O 0 ∧
   (∀i c,i≠O→G.get i=some c→h'.get i=some c)∧G.next≤h'.next∧h'.floor=G.floor∧h'.get O=some (vH {y with vb:=ov'})∧wo 1 h' ov' (acc++wI p.length q r).length (ints (acc++wI p.length q r))∧∀j,ov'.id?=some j→G.next≤j
 | [], r, p, p', hp, hp', hpp, h, ov, acc, low, hn, hf, hg, o, ho, ha => by
   rw[Xe]at hp
   have e8:p.length=8:=by rw[←hp,wh]
   refine⟨[(2,.aC P 0),(3,.aC M 0),(4,r4),(7,.aC O 0),(9,wB (vY (l.map (·.1)))),(11,.int .i64 p.length),(52,.bool false)],h,ov,tF ?_,rfl,rfl,rfl,low,hn,hf,hg,by simpa [wI]using o,ho⟩
   rw[e8]
   clear low o hp hp'
   generalize wB (vY (l.map (·.1)))=D at *
   simp (disch:=omega)only[go_sem,vN,AP.f241L0]
 | d :: q, [], p, p', hp, hp', hpp, h, ov, acc, low, hn, hf, hg, o, ho, ha => by
   have:=Xy List.length hp
   rw[wh]at this
   rw[hp']at l8
   simp at l8 this;omega
 | d :: q, m :: r, p, p', hp, hp', hpp, h, ov, acc, low, hn, hf, hg, o, ho, ha => by
   have e8:=Xy List.length hp
   rw[wh]at e8
   simp only[vF,W9]at e8
   have xB:=k3.ext low
   obtain⟨gP,gM⟩:=k3.P_ low
   have rw1:=yh h (vY (l.map (·.1)))
   obtain⟨ad,a1,a2⟩:=rw1.xg
   have b1:=a1 p.length ⟨by omega,by rw[wh];omega⟩
   have b2:=a2 h (Ext.refl h) p.length d (by rw[hp];simp)
   obtain⟨cd,c1,c2⟩:=k3.ox.rd.xg
   have d1:=c1 p.length ⟨by omega,by rw[l8];omega⟩
   have d2:=c2 h xB p.length m (by rw[hp',hpp];simp)
   have e4:(vH x)[4]?=some x.vd:=rfl
   have w1:(((p++[d]).length:Nat):Int)=(p.length:Int)+1:=by simp
   by_cases c:m=d
   · obtain⟨e',h',ov',r1,r2,r2a,r3,r4',r5,r6,r7,r8,r9⟩:=DG (r4:=r4) k3 l8 q r (p++[d]) (p'++[m]) (by rw[hp];simp) (by rw[hp'];simp) (by simp [hpp]) h ov acc low hn hf hg o ho (by simp;omega)
     rw[w1]at r1
     have eu:wI p.length (d::q) (m::r)=wI (p++[d]).length q r:=by rw[wI,if_pos c,vF];rfl
     rw[eu]
     refine⟨e',h',ov',tG ?_ r1,r2,r2a,r3,r4',r5,r6,r7,r8,r9⟩
     clear r1 r4' r8 r9 low o a1 a2 c1 c2 hp hp' xB rw1 k3
     generalize vH x=X at *
     generalize wB (vY (l.map (·.1)))=D at *
     simp (disch:=omega)only[go_sem,vN,AP.f241L0,b1,b2,gM,e4,d1,d2,J9 c.symm]
   · obtain⟨v',h1,p1,p2,p3,p4,p5,p6⟩:=o.push (by have:=k3.fG;omega) (z:=8) (m:=1) (by omega) (by omega) [.int .i64 p.length] rfl rfl (by simp [roomy];omega)
     have ea:ints acc++[.int .i64 p.length]=ints (acc++[(p.length:Int)]):=by simp [ints,I]
     have el:acc.length+1=(acc++[(p.length:Int)]).length:=by simp
     rw[ea,el]at p2
     have sv:=p2.sc
     have cv:=xm sv
     have hO:=h.lt _ _ hg
     have oO:ov.id?≠some O:=fun q2=>by have:=ho O q2;have:=k3.ON;omega
     have g1:h1.get O=some (vH {y with vb:=ov}):=by rw[p5 O oO hO];exact hg
     obtain⟨h2,eh2⟩:∃g,g=h1.set O (vH {y with vb:=v'}):=⟨_,rfl⟩
     have st:ur h1 O 5 1 [v'] (some (vH {y with vb:=ov}))=some h2:=by rw[uK (by have:=k3.fO;omega) (by show 5<9;omega) sv,eh2];rfl
     have g2:h2.get O=some (vH {y with vb:=v'}):=by rw[eh2,vP rfl,g1];rfl
     have vj:∀j,v'.id?=some j→j=h.next+1:=fun j q2=>by rw[p6]at q2;exact(uS q2).symm
     obtain⟨e',h',ov',r1,r2,r2a,r3,r4',r5,r6,r7,r8,r9⟩:=DG (r4:=r4) k3 l8 q r (p++[d]) (p'++[m]) (by rw[hp];simp) (by rw[hp'];simp) (by simp [hpp]) h2 v' (acc++[(p.length:Int)])
      (fun i c c2 q3=>by have:=G.lt _ _ q3;rw[eh2,vL c2,p5 i (fun q2=>by have:=ho i q2;omega) (by omega)];exact low i c c2 q3) (by rw[eh2];simp;omega) (by rw[eh2];simp [p3,hf]) g2
      (p2.mono (by rw[eh2];simp) fun i q2=>by have:=vj i q2;have:=k3.ON;rw[eh2,vL (by omega)]) (fun j q2=>by have:=vj j q2;omega) (by simp;omega)
     rw[w1]at r1
     have eu:acc++wI p.length (d::q) (m::r)=(acc++[(p.length:Int)])++wI (p++[d]).length q r:=by rw[wI,if_neg c,vF];simp
     rw[eu]
     refine⟨e',h',ov',tG ?_ r1,r2,r2a,r3,r4',r5,r6,r7,r8,r9⟩
     have e5:(vH {y with vb:=ov})[5]?=some ov:=rfl
     have c':¬d=m:=fun q=>c q.symm
     clear r1 r4' r8 r9 low o a1 a2 c1 c2 hp hp' xB p2 p5 rw1 k3
     generalize vH x=X at *
     generalize vH {y with vb:=ov}=Y1 at *
     generalize vH {y with vb:=v'}=Y2 at *
     generalize wB (vY (l.map (·.1)))=D at *
     simp (disch:=omega)only[go_sem,vN,AP.f241L0,b1,b2,gM,e4,d1,d2,K3 c',hg,e5,p1,g1,cv,st]
theorem Dx {B G : H} {P M O : Nat} {v r4 : AV} {l : List wc} {x y : wJ} (k3 : Dk B G P M O v l x) (sv0 : v.sc = true) (nl6 : x.m.names.length ≤ 6) : ∀ (q p : List ByteArray), x.m.names = p ++ q → ∀ (h : H) (ov : AV) (acc : List wR), (∀ i c, i ≠ O → G.get i = some c → h.get i = some c) → G.next ≤ h.next → h.floor = G.floor → h.get O = some (vH { y with ve := ov }) →
 wo 9 h ov acc.length (vW (acc.map FP))→(∀j,ov.id?=some j→G.next≤j)→acc.length≤p.length→
 ∃ e' h' ov', Lp AP.A [2, 3, 4, 7, 14] AP.f241L1 [(2, .aC P 0), (3, .aC M 0), (4, r4), (7, .aC O 0), (14, .int .i64 p.length)] h = some (.exit 3, e', h') ∧ look e' 4 = r4 ∧ look e' 7 = .aC O 0 ∧
   (∀i c,i≠O→G.get i=some c→h'.get i=some c)∧G.next≤h'.next∧h'.floor=G.floor∧h'.get O=some (vH {y with ve:=ov'})∧wo 9 h' ov' (acc++zk (l.map (·.1)) q).length (vW ((acc++zk (l.map (·.1)) q).map FP))∧(∀j,ov'.id?=some j→G.next≤j)∧(acc++zk (l.map (·.1)) q).length≤6
 | [], p, hp, h, ov, acc, low, hn, hf, hg, o, ho, ha => by
   rw[Xe]at hp
   have e:x.m.names.length=p.length:=by rw[hp]
   obtain⟨_,gM⟩:=k3.P_ low
   have ln:=k3.ox.rn.Bb.len
   rw[wA,e]at ln
   have e7:(vH x)[7]?=some x.vn:=rfl
   refine⟨[(2,.aC P 0),(3,.aC M 0),(4,r4),(7,.aC O 0),(14,.int .i64 p.length),(103,.bool false)],h,ov,tF ?_,rfl,rfl,low,hn,hf,hg,by simpa [zk]using o,ho,by simp [zk];omega⟩
   clear low o
   generalize vH x=X at *
   simp (disch:=omega)only[go_sem,vN,AP.f241L1,gM,e7,ln]
 | s :: q, p, hp, h, ov, acc, low, hn, hf, hg, o, ho, ha => by
   have hlen:x.m.names.length=p.length+(q.length+1):=by rw[hp];simp
   have xB:=k3.ext low
   obtain⟨gP,gM⟩:=k3.P_ low
   have fG:=k3.fG
   have fO:=k3.fO
   have ON:=k3.ON
   have ln:=k3.ox.rn.Bb.len
   rw[wA]at ln
   have e7:(vH x)[7]?=some x.vn:=rfl
   obtain⟨nd,a1,_,a3⟩:=k3.ox.rn.AH
   have b1:=a1 p.length ⟨by omega,by omega⟩
   have b2:=a3 h xB p.length s (by rw[hp];simp)
   have rdh:=k3.rd.mono fun i c q=>xB i c q
   have l6:l.length≤6:=by have:=(wF (xS k3.fo)).1;simpa using this
   have k1:=HX h v l s sv0 (by omega) rdh
   have w1:(((p++[s]).length:Nat):Int)=(p.length:Int)+1:=by simp
   rw[Ks]
   cases hp2:(v9 s (l.map (·.1))).2 with
   | false =>
     rw[hp2]at k1
     rw[if_neg (by decide)]
     obtain⟨e',h',ov',r1,r2,r3,r4',r5,r6,r7,r8,r9,r10⟩:=Dx (r4:=r4) k3 sv0 nl6 q (p++[s]) (by rw[hp];simp) h ov acc low hn hf hg o ho (by simp;omega)
     rw[w1]at r1
     refine⟨e',h',ov',tG ?_ r1,r2,r3,r4',r5,r6,r7,r8,r9,r10⟩
     clear r1 r4' r8 r9 r10 low o a1 a3 hp xB rdh k3
     generalize (v9 s (l.map (·.1))).1=K at *
     generalize vH x=X at *
     simp (disch:=omega)only[go_sem,vN,AP.f241L1,gM,e7,ln,gP,wZ,b1,b2,k1]
   | true =>
     rw[hp2]at k1
     rw[if_pos rfl]
     have lt:=Am _ _ hp2
     rw[Xd]at lt
     obtain⟨z,hz⟩:∃z,l[(v9 s (l.map (·.1))).1]?=some z:=⟨l[(v9 s (l.map (·.1))).1],by simp⟩
     have hz':(l.map (·.1))[(v9 s (l.map (·.1))).1]?=some z.1:=by rw[vq,hz];rfl
     rw[hz']
     have hm:=vi hz
     obtain⟨ok,sc⟩:=k3.ok z hm
     have fz:=Al k3.fo z.1 (Xl.2 ⟨z,hm,rfl⟩)
     obtain⟨ad,c1,c2⟩:=rdh.DY
     obtain⟨pe,lz⟩:=c2 h (Ext.refl h) _ z hz
     have d1:=c1 (v9 s (l.map (·.1))).1 ⟨by omega,by omega⟩
     have k2:=JC h z.1 z.2 sc (ok.mono xB) (by omega) (by omega)
     obtain⟨E,hE⟩:∃E,E=vT z.1 (wB z.1.vec):=⟨_,rfl⟩
     have lE:E.length=9:=by rw[hE];rfl
     have cE:AV.aB E=true:=by rw[hE];exact yx rfl
     have fE:setFrom [.str ⟨#[]⟩,.bool false,.aQ,.int .i64 0,.int .i64 0,.int .i64 0,.str ⟨#[]⟩,.int .i64 0,.int .i64 0] 0 E=E:=by rw[hE];rfl
     obtain⟨v',h2,p1,p2,p3,p4,p5,p6⟩:=o.push (by omega) (z:=104) (m:=1) (by omega) (by omega) E (by rw[lE]) cE (by simp [roomy];omega)
     have ea:vW (acc.map FP)++E=vW ((acc++[z.1]).map FP):=by rw[Xo,XB,show FP z.1=(z.1,wB z.1.vec)from rfl,AY,hE]
     have el:acc.length+1=(acc++[z.1]).length:=by simp
     rw[ea,el]at p2
     have sv:=p2.sc
     have cv:=xm sv
     have hO:=h.lt _ _ hg
     have oO:ov.id?≠some O:=fun q2=>by have:=ho O q2;omega
     have g2:h2.get O=some (vH {y with ve:=ov}):=by rw[p5 O oO hO];exact hg
     obtain⟨h3,eh3⟩:∃g,g=h2.set O (vH {y with ve:=v'}):=⟨_,rfl⟩
     have st:ur h2 O 8 1 [v'] (some (vH {y with ve:=ov}))=some h3:=by rw[uK (by omega) (by show 8<9;omega) sv,eh3];rfl
     have g3:h3.get O=some (vH {y with ve:=v'}):=by rw[eh3,vP rfl,g2];rfl
     have vj:∀i,v'.id?=some i→i=h.next+1:=fun i q2=>by rw[p6]at q2;exact(uS q2).symm
     obtain⟨e',h',ov',r1,r2,r3,r4',r5,r6,r7,r8,r9,r10⟩:=Dx (r4:=r4) k3 sv0 nl6 q (p++[s]) (by rw[hp];simp) h3 v' (acc++[z.1])
      (fun i c c2 q3=>by have:=G.lt _ _ q3;rw[eh3,vL c2,p5 i (fun q2=>by have:=ho i q2;omega) (by omega)];exact low i c c2 q3) (by rw[eh3];simp;omega) (by rw[eh3];simp;omega) g3
      (p2.mono (by rw[eh3];simp) fun i q2=>by have:=vj i q2;rw[eh3,vL (by omega)]) (fun j q2=>by have:=vj j q2;omega) (by simp;omega)
     rw[w1]at r1
     rw[XF]at r8 r10
     refine⟨e',h',ov',tG ?_ r1,r2,r3,r4',r5,r6,r7,r8,r9,r10⟩
     have e8:(vH {y with ve:=ov})[8]?=some ov:=rfl
     rw[←hE]at k2
     have lz':bU true 9 (ad (v9 s (l.map (·.1))).1 0) h=some (.agg (vT z.1 z.2)):=lz
     clear r1 r4' r8 r9 r10 low o a1 a3 hp xB rdh c1 c2 pe lz ok hz hz' hm p2 p5 ea hE k3
     generalize (v9 s (l.map (·.1))).1=K at *
     generalize vT z.1 z.2=Z at *
     generalize vH x=X at *
     generalize vH {y with ve:=ov}=Y1 at *
     generalize vH {y with ve:=v'}=Y2 at *
     simp (disch:=omega)only[go_sem,vN,AP.f241L1,gM,e7,ln,gP,wZ,b1,b2,k1,hg,e8,d1,lz',k2,lE,cE,fE,p1,g2,cv,st,Xq]
theorem Fi:AP.f241.body=.seq (at_ 0 AP.f241.body) (.seq (at_ 1 AP.f241.body) (.seq (at_ 2 AP.f241.body) (.seq (at_ 3 AP.f241.body) (.seq (at_ 4 AP.f241.body) (.seq (at_ 5 AP.f241.body) (DO 6 AP.f241.body)))))):=rfl
theorem Jo {H2:H} {R O:Nat} {b:Bool} {y:wJ} (gO:H2.get O=some (vH y)) (gR:H2.get R=some (vH vV)) (fR:H2.floor≤R) (cy:AV.aB (vH y)=true):
 aM (aS AP.A) bB (DO 6 AP.f241.body) [(4,.aC R 0),(7,.aC O 0),(8,.bool b)] H2=some (.ret,[(4,.aC R 0),(5,.bool b),(6,.int .i64 0)],if b then H2.set R (vH y)else H2.set R (vH vV)):=by
 have z0:([.int .i64 0,.int .i64 0,.int .i64 0,.int .i64 0,.aQ,.aQ,.aQ,.aQ,.aQ]:List AV)=vH vV:=rfl
 have B0:ur H2 R 0 9 (vH vV) (some (vH vV))=some (H2.set R (vH vV)):=wH fR rfl rfl rfl
 have st2:ur H2 R 0 9 (vH y) (some (vH vV))=some (H2.set R (vH y)):=wH fR rfl rfl cy
 have ly:(vH y).length=9:=rfl
 have ty:List.take 9 (vH y)=vH y:=rfl
 cases b with
 | false =>
   rw[if_neg (by decide)]
   generalize vH vV=Z at *
   generalize vH y=Y at *
   simp (disch:=omega)only[go_sem,vN,AP.f241,yK,yL,z0,gR,B0]
 | true =>
   rw[if_pos rfl]
   generalize vH vV=Z at *
   generalize vH y=Y at *
   simp (disch:=omega)only[go_sem,vN,AP.f241,yK,yL,gO,CA,wL,ly,ty,Xf,gR,st2]
theorem MC (g:Nat→Option (List AV)) (fl:Nat):fK (snap g fl 14 true) (vH vV)=some (vH (xc zw)):=rfl
theorem KA (L:List wR):Mc (vY L)=wB (vY L):=by unfold Mc BE wB;rw[wh];rfl
theorem wo.KD {h:H} {v:AV} {l:List Int} {fl m:Nat} {t:Bool} (o:wo 1 h v l.length (ints l)) (hf:fl≤h.floor):snap h.get fl (m+2) t v=some (Mc l):=o.xV hf
set_option maxHeartbeats 8000000 in
theorem MT (h : H) (v : AV) (l : List wc) (sv : v.sc = true) (hn : l.length < 1125899906842624) (rd : xo 9 h v l.length (vW l)) (hv : ∀ x ∈ l, xw h x ∧ x.2.sc = true) (x : wJ) (ox : zS h x) :
 aS AP.A 241 [.agg [v],.agg (vH x)] h=some (.bP [.agg (vH (xc (w8 (l.map (·.1)) x.m).1)),.bool (w8 (l.map (·.1)) x.m).2.1,.int .i64 (w8 (l.map (·.1)) x.m).2.2],h):=by
 obtain⟨h1,eh1⟩:∃g,g=h.dY.alloc [v]:=⟨_,rfl⟩
 obtain⟨h2,eh2⟩:∃g,g=h1.alloc (vH x):=⟨_,rfl⟩
 obtain⟨h3,eh3⟩:∃g,g=h2.alloc (vH vV):=⟨_,rfl⟩
 have n0:h.dY.next=h.next:=rfl
 have n1:h1.next=h.next+1:=by rw[eh1];simp
 have n2:h2.next=h.next+2:=by rw[eh2];simp [n1]
 have n3:h3.next=h.next+3:=by rw[eh3];simp [n2]
 have f3:h3.floor=h.next:=by rw[eh3,eh2,eh1];simp
 have x3:Ext h h3:=fun i c q=>by rw[eh3,eh2,eh1];exact((((Ext.refl h.dY).alloc _).alloc _).alloc _) i c q
 have gP:h3.get h.next=some [v]:=by rw[eh3,vS (by omega),eh2,vS (by omega),eh1];exact vO rfl
 have gM:h3.get (h.next+1)=some (vH x):=by rw[eh3,vS (by omega),eh2,vO (by omega)]
 have gR:h3.get (h.next+2)=some (vH vV):=by rw[eh3,vO (by omega)]
 have cx:=xG ox
 have lx:(vH x).length=9:=rfl
 have cz:AV.aB (vH vV)=true:=rfl
 have z0:([.int .i64 0,.int .i64 0,.int .i64 0,.int .i64 0,.aQ,.aQ,.aQ,.aQ,.aQ]:List AV)=vH vV:=rfl
 have b0:aM (aS AP.A) bB (at_ 0 AP.f241.body) (params 0 [.agg [v],.agg (vH x)]) h.dY=some (.normal,[(2,.aC h.next 0),(3,.aC (h.next+1) 0),(4,.aC (h.next+2) 0)],h3):=by
  have z:h2.alloc (vH vV)=h3:=eh3.symm
  clear ox rd hv x3
  generalize vH x=X at *
  generalize vH vV=Z at *
  simp (disch:=omega)only[go_sem,vN,AP.f241,wD,sv,n0,←eh1,lx,cx,n1,←eh2,n2,z0,cz,z]
 have rd3:=rd.mono fun i c q=>x3 i c q
 have hv3:∀z∈l,xw h3 z∧z.2.sc=true:=fun z hz=>⟨(hv z hz).1.mono x3,(hv z hz).2⟩
 have ox3:=ox.mono x3
 have k1:=Bq h3 v l sv hn rd3 hv3
 have km:=LJ h3 x ox3
 have tX:List.take 9 (vH x)=vH x:=rfl
 have fin:∀{H3:H} {y:wJ} {m:Ae} {b:Bool} {e:Int},fK (snap H3.get h.next 14 true) (vH y)=some (vH (xc m))→H3.get (h.next+2)=some (vH y)→aM (aS AP.A) bB AP.f241.body (params 0 [.agg [v],.agg (vH x)]) h.dY=some (.ret,[(4,.aC (h.next+2) 0),(5,.bool b),(6,.int .i64 e)],H3)→
  aS AP.A 241 [.agg [v],.agg (vH x)] h=some (.bP [.agg (vH (xc m)),.bool b,.int .i64 e],h):=fun {H3 y m b e} hs hg hb=>by
  refine uo (fn:=AP.f241) (h2:=H3) (e:=[(4,.aC (h.next+2) 0),(5,.bool b),(6,.int .i64 e)]) (vs:=[.agg (vH y),.bool b,.int .i64 e]) rfl rfl rfl hb (by simp only[AP.f241,cM,nk,mU,lF,ne_eq,Nat.reduceEqDiff,not_false_eq_true,qQ,hg,tu];rfl) ?_
  show(fK (snap H3.get h.next 15 true) [.agg (vH y),.bool b,.int .i64 e]).bind _=_
  have s1:snap H3.get h.next 15 true (.agg (vH y))=some (.agg (vH (xc m))):=by
   show(fK (snap H3.get h.next 14 true) (vH y)).bind _=_
   rw[hs];rfl
  simp only[fK,s1];rfl
 by_cases ok:xa (l.map (·.1))=true∧zE x.m=true
 case neg=>
  have eR:w8 (l.map (·.1)) x.m=(zw,false,2200):=by unfold w8;rw[if_neg ok]
  rw[eR]
  have st:ur h3 (h.next+2) 0 9 (vH vV) (some (vH vV))=some h3:=by rw[wH (n:=9) (by omega) rfl rfl rfl,H.jI gR]
  refine fin (H3:=h3) (y:=vV) (MC _ _) gR ?_
  rw[Fi,rZ,b0,sY]
  cases c1:xa (l.map (·.1))with
  | true =>
    have c2:zE x.m=false:=by
     cases q:zE x.m with
     |false=>rfl
     |true=>exact absurd ⟨c1,q⟩ ok
    rw[c1]at k1
    rw[c2]at km
    clear ox rd hv x3 rd3 hv3 ox3 b0 fin
    generalize vH x=X at *
    generalize vH vV=Z at *
    simp (disch:=omega)only[go_sem,vN,AP.f241,wM,wD,gP,wZ,k1,gM,CA,wL,lx,tX,Xf,km,z0,gR,st]
  | false =>
    rw[c1]at k1
    clear ox rd hv x3 rd3 hv3 ox3 b0 fin km
    generalize vH x=X at *
    generalize vH vV=Z at *
    simp (disch:=omega)only[go_sem,vN,AP.f241,wM,wD,gP,wZ,k1,z0,gR,st]
 case pos=>
  obtain⟨c1,c2⟩:=ok
  rw[c1]at k1
  rw[c2]at km
  have eR:w8 (l.map (·.1)) x.m=((xK (l.map (·.1)) x.m).getD zw,(xK (l.map (·.1)) x.m).isSome,0):=by unfold w8;rw[if_pos ⟨c1,c2⟩]
  rw[eR]
  have b1:aM (aS AP.A) bB (at_ 1 AP.f241.body) [(2,.aC h.next 0),(3,.aC (h.next+1) 0),(4,.aC (h.next+2) 0)] h3=some (.normal,[(2,.aC h.next 0),(3,.aC (h.next+1) 0),(4,.aC (h.next+2) 0)],h3):=by
   clear ox rd hv x3 rd3 hv3 ox3 b0 fin
   generalize vH x=X at *
   simp (disch:=omega)only[go_sem,vN,AP.f241,wM,wD,gP,wZ,k1,gM,CA,wL,lx,tX,Xf,km]
  obtain⟨y0,hy0⟩:∃y:wJ,y=⟨⟨0,x.m.dst,x.m.src,0,[],[],[],[],[]⟩,.aQ,.aQ,.aQ,.aQ,.aQ,[],[]⟩:=⟨_,rfl⟩
  obtain⟨G,eG⟩:∃g,g=(h3.alloc (vH vV)).set h3.next (vH y0):=⟨_,rfl⟩
  have ga:(h3.alloc (vH vV)).get h3.next=some (vH vV):=vO rfl
  have nG:G.next=h3.next+1:=by rw[eG];simp
  have fG:G.floor=h.next:=by rw[eG];simp [f3]
  have x5:Ext h3 G:=fun i c q=>by have:=h3.lt _ _ q;rw[eG,vL (by omega),vS (by omega)];exact q
  have gO:G.get h3.next=some (vH y0):=by rw[eG,vP rfl,ga];rfl
  have st5:ur (h3.alloc (vH vV)) h3.next 0 9 (vH y0) (some (vH vV))=some G:=by rw[eG];exact wH (by simp;omega) rfl rfl (by rw[hy0];rfl)
  have gP5:=x5 _ _ gP
  have gM5:=x5 _ _ gM
  have gR5:=x5 _ _ gR
  have kd:=HB G v l sv hn (rd3.mono fun i c q=>x5 i c q) (fun z hz=>⟨(hv3 z hz).1.mono x5,(hv3 z hz).2⟩)
  unfold HC at kd
  rw[if_pos c1]at kd
  have b2:aM (aS AP.A) bB (at_ 2 AP.f241.body) [(2,.aC h.next 0),(3,.aC (h.next+1) 0),(4,.aC (h.next+2) 0)] h3=some (.normal,[(2,.aC h.next 0),(3,.aC (h.next+1) 0),(4,.aC (h.next+2) 0),(7,.aC h3.next 0)],G):=by
   have e1:(vH x)[1]?=some (.int .i64 x.m.src):=rfl
   have e2:(vH x)[2]?=some (.int .i64 x.m.dst):=rfl
   have zy:dZ (vH vV) [(1,1,.int .i64 x.m.dst),(2,1,.int .i64 x.m.src)]=some (vH y0):=by rw[hy0];rfl
   clear ox rd hv x3 rd3 hv3 ox3 b0 b1 fin x5 hy0 tX km k1
   generalize vH x=X at *
   generalize vH vV=Z at *
   generalize vH y0=Y at *
   simp (disch:=omega)only[go_sem,AP.f241,wM,wD,gM,e1,e2,z0,zy,cz,yH,wL,AQ,Xk,Xx,ga,st5,vk,vP,vL,vO,vS]
  have b3:aM (aS AP.A) bB (.seq (at_ 3 AP.f241.body) (at_ 4 AP.f241.body)) [(2,.aC h.next 0),(3,.aC (h.next+1) 0),(4,.aC (h.next+2) 0),(7,.aC h3.next 0)] G=some (.normal,[(2,.aC h.next 0),(3,.aC (h.next+1) 0),(4,.aC (h.next+2) 0),(7,.aC h3.next 0),(8,.bool false),(9,wB (vY (l.map (·.1))))],G):=by
   clear ox rd hv x3 rd3 hv3 ox3 b0 b1 fin x5 hy0 tX km k1
   generalize wB (vY (l.map (·.1)))=D at *
   simp (disch:=omega)only[go_sem,vN,AP.f241,wM,wD,gP5,wZ,kd]
  have e0:(vH x)[0]?=some (.int .i64 x.m.kind):=rfl
  have go : ∀ {H2 : H} {y : wJ} {m : Ae} {b : Bool}, aM (aS AP.A) bB (at_ 5 AP.f241.body) [(2, .aC h.next 0), (3, .aC (h.next + 1) 0), (4, .aC (h.next + 2) 0), (7, .aC h3.next 0), (8, .bool false), (9, wB (vY (l.map (·.1))))] G = some (.normal, [(4, .aC (h.next + 2) 0), (7, .aC h3.next 0), (8, .bool b)], H2) →
   H2.get h3.next=some (vH y)→(∀i c,i≠h3.next→G.get i=some c→H2.get i=some c)→H2.floor=G.floor→AV.aB (vH y)=true→(b=true→∀g:H,(∀i,i≠h.next+2→g.get i=H2.get i)→g.floor=H2.floor→fK (snap g.get h.next 14 true) (vH y)=some (vH (xc m)))→(b=false→m=zw)→
   aS AP.A 241 [.agg [v],.agg (vH x)] h=some (.bP [.agg (vH (xc m)),.bool b,.int .i64 0],h):=fun {H2 y m b} q1 q2 q3 q4 q5 q6 q7=>by
   have gR7:=q3 _ _ (by omega) gR5
   have t:=Jo (b:=b) q2 gR7 (by omega) q5
   have bd:aM (aS AP.A) bB AP.f241.body (params 0 [.agg [v],.agg (vH x)]) h.dY=some (.ret,[(4,.aC (h.next+2) 0),(5,.bool b),(6,.int .i64 0)],if b then H2.set (h.next+2) (vH y)else H2.set (h.next+2) (vH vV)):=by
    rw[rZ]at b3
    rw[Fi,rZ,b0,sY,rZ,b1,sY,rZ,b2,sY,rZ]
    cases hq:aM (aS AP.A) bB (at_ 3 AP.f241.body) [(2,.aC h.next 0),(3,.aC (h.next+1) 0),(4,.aC (h.next+2) 0),(7,.aC h3.next 0)] G with
    |none=>rw[hq]at b3;cases b3
    | some r =>
      obtain⟨ex,ev,hh⟩:=r
      cases ex with
      | normal =>
        rw[hq,sY]at b3
        rw[sY,rZ,b3,sY,rZ,q1,sY]
        exact t
      |exit i=>rw[hq]at b3;cases b3
      |ret=>rw[hq]at b3;cases b3
   cases b with
   | true =>
     rw[if_pos rfl]at bd
     refine fin (y:=y) (q6 rfl (H2.set (h.next+2) (vH y)) (fun i hi=>vL hi) (by simp)) (by rw[vP rfl,gR7];rfl) bd
   | false =>
     rw[if_neg (by decide)]at bd
     rw[q7 rfl]
     exact fin (y:=vV) (MC _ _) (by rw[vP rfl,gR7];rfl) bd
  have k3:Dk h3 G h.next (h.next+1) h3.next v l x:=⟨rd3,hv3,c1,ox3,gP5,gM5,⟨by omega,by omega⟩,x5,u6 _,by omega,by omega,by omega⟩
  have hOf:G.floor≤h3.next:=by omega
  have kw:∀k:Int,ur G h3.next 0 1 [.int .i64 k] (some (vH y0))=some (G.set h3.next (vH {y0 with m:={y0.m with kind:=k}})):=fun k=>by rw[uK hOf (by show 0<9;omega) rfl];rfl
  have kg:∀k:Int,(G.set h3.next (vH {y0 with m:={y0.m with kind:=k}})).get h3.next=some (vH {y0 with m:={y0.m with kind:=k}}):=fun k=>by rw[vP rfl,gO];rfl
  have klow:∀(k:Int) i c,i≠h3.next→G.get i=some c→(G.set h3.next (vH {y0 with m:={y0.m with kind:=k}})).get i=some c:=fun k i c c2 q=>by rw[vL c2];exact q
  by_cases h0:x.m.kind=0
  · have ks:=kw 1
    have g1:=kg 1
    obtain⟨y1,hy1⟩:∃y:wJ,y={y0 with m:={y0.m with kind:=1}}:=⟨_,rfl⟩
    obtain⟨y2,hy2⟩:∃y:wJ,y={y0 with m:={y0.m with kind:=1},vd:=wB (vY (l.map (·.1)))}:=⟨_,rfl⟩
    rw[←hy1]at ks g1
    obtain⟨G1,eG1⟩:∃g,g=G.set h3.next (vH y1):=⟨_,rfl⟩
    rw[←eG1]at ks g1
    obtain⟨G2,eG2⟩:∃g,g=G1.set h3.next (vH y2):=⟨_,rfl⟩
    have st2:ur G1 h3.next 4 1 [wB (vY (l.map (·.1)))] (some (vH y1))=some G2:=by rw[uK (by rw[eG1];simpa using hOf) (by show 4<9;omega) rfl,eG2,hy1,hy2];rfl
    have g2:G2.get h3.next=some (vH y2):=by rw[eG2,vP rfl,g1];rfl
    have low2:∀i c,i≠h3.next→G.get i=some c→G2.get i=some c:=fun i c c2 q=>by rw[eG2,vL c2,eG1,vL c2];exact q
    obtain⟨gP2,gM2⟩:=k3.P_ low2
    have xB:=k3.ext low2
    have kr:=Gh G2 v l sv hn (rd3.mono fun i c q=>xB i c q) (fun z hz=>⟨(hv3 z hz).1.mono xB,(hv3 z hz).2⟩) c1
    have e3:(vH x)[3]?=some (.int .i64 x.m.root):=rfl
    have e0':(vH x)[0]?=some (.int .i64 0):=by rw[e0,h0]
    have cD:(wB (vY (l.map (·.1)))).cells=[wB (vY (l.map (·.1)))]:=rfl
    have a5:∀b:Bool,(!decide (wG (vY (l.map (·.1)))=x.m.root))=b→aM (aS AP.A) bB (at_ 5 AP.f241.body) [(2,.aC h.next 0),(3,.aC (h.next+1) 0),(4,.aC (h.next+2) 0),(7,.aC h3.next 0),(8,.bool false),(9,wB (vY (l.map (·.1))))] G=some (.normal,[(4,.aC (h.next+2) 0),(7,.aC h3.next 0),(8,.bool b)],G2):=fun b hb=>by
     subst hb
     clear ox rd hv x3 rd3 hv3 ox3 b0 b1 b2 b3 fin x5 hy0 tX km k1 go kw klow kd kg k3 hy1 hy2 eG1 eG2 low2 xB e0
     generalize wG (vY (l.map (·.1)))=R at *
     generalize wB (vY (l.map (·.1)))=D at *
     generalize vH x=X at *
     generalize vH y1=Y1 at *
     generalize vH y2=Y2 at *
     by_cases c:R=x.m.root
     · rw[dt c]
       simp (disch:=omega)only[go_sem,vN,AP.f241,wM,wD,gM5,e0',Xq,gO,ks,g1,cD,st2,gP2,wZ,kr,gM2,e3,J9 c]
     · rw[df c]
       simp (disch:=omega)only[go_sem,vN,AP.f241,wM,wD,gM5,e0',Xq,gO,ks,g1,cD,st2,gP2,wZ,kr,gM2,e3,K3 c]
    have cy2:AV.aB (vH y2)=true:=by rw[hy2,hy0];rfl
    have f2':G2.floor=G.floor:=by rw[eG2,eG1];simp
    by_cases c:wG (vY (l.map (·.1)))=x.m.root
    · have ea:xK (l.map (·.1)) x.m=none:=by unfold xK;rw[if_pos h0,if_pos c]
      rw[ea]
      exact go (b:=false) (a5 false (by rw[dt c];rfl)) g2 low2 f2' cy2 (fun q=>by cases q) (fun _=>rfl)
    · have ea:xK (l.map (·.1)) x.m=some ⟨1,x.m.dst,x.m.src,0,vY (l.map (·.1)),[],[],[],[]⟩:=by unfold xK;rw[if_pos h0,if_neg c]
      rw[ea]
      refine go (b:=true) (a5 true (by rw[df c];rfl)) g2 low2 f2' cy2 (fun _ g _ _=> ?_) (fun q=>by cases q)
      have e:vH (xc ⟨1,x.m.dst,x.m.src,0,vY (l.map (·.1)),[],[],[],[]⟩)=[.int .i64 1,.int .i64 x.m.dst,.int .i64 x.m.src,.int .i64 0,wB (vY (l.map (·.1))),.aQ,.aQ,.aQ,.aQ]:=by
       show [AV.int .i64 1,.int .i64 x.m.dst,.int .i64 x.m.src,.int .i64 0,Mc (vY (l.map (·.1))),.aQ,.aQ,.aQ,.aQ]=_
       rw[KA]
      show fK _ _=some (vH (xc ⟨1,x.m.dst,x.m.src,0,vY (l.map (·.1)),[],[],[],[]⟩))
      rw[e,hy2,hy0];rfl
  by_cases h1':x.m.kind=1
  · have l8:x.m.wS.length=8:=by
     have:=c2
     unfold zE xu at this
     rw[if_neg h0,if_pos h1']at this
     simp only[u9,Xh]at this
     exact this.2.1.1
    have ks:=kw 2
    have g1:=kg 2
    obtain⟨y1,hy1⟩:∃y:wJ,y={y0 with m:={y0.m with kind:=2}}:=⟨_,rfl⟩
    rw[←hy1]at ks g1
    have klow2:=klow 2
    rw[←hy1]at klow2
    obtain⟨G1,eG1⟩:∃g,g=G.set h3.next (vH y1):=⟨_,rfl⟩
    rw[←eG1]at ks g1 klow2
    obtain⟨e',H1,ov,r1,r2,r2a,r3,r4',r5,r6,r7,r8,r9⟩:=DG (y:=y1) (r4:=.aC (h.next+2) 0) k3 l8 (vY (l.map (·.1))) x.m.wS [] [] rfl rfl rfl G1 .aQ [] klow2 (by rw[eG1];simp) (by rw[eG1];simp) (by rw[g1,hy1,hy0]) wo.nil (fun j q=>by cases q) (u6 _)
    have r1':Lp AP.A [2,3,4,7,9,11] AP.f241L0 [(2,.aC h.next 0),(3,.aC (h.next+1) 0),(4,.aC (h.next+2) 0),(7,.aC h3.next 0),(9,wB (vY (l.map (·.1)))),(11,.int .i64 0)] G1=some (.exit 1,e',H1):=r1
    have r8':wo 1 H1 ov (xL (l.map (·.1)) x.m.wS).length (ints (xL (l.map (·.1)) x.m.wS)):=r8
    obtain⟨U,hU⟩:∃U,U=xL (l.map (·.1)) x.m.wS:=⟨_,rfl⟩
    have Ul:U.length≤8:=by rw[hU];have:=zB (vY (l.map (·.1))) x.m.wS 0;rw[wh]at this;exact this
    have Um:yE U=true:=by rw[hU];exact zC _ _ 0 none (by rw[wh];omega) fun q hq=>by cases hq
    rw[←hU]at r8'
    have xB:=k3.ext r4'
    obtain⟨gP1,_⟩:=k3.P_ r4'
    have sov:=r8'.sc
    have kb:=ID H1 v ov l U sv hn (rd3.mono fun i c q=>xB i c q) (fun z hz=>⟨(hv3 z hz).1.mono xB,(hv3 z hz).2⟩) (E4 r8') (by omega)
    unfold MY at kb
    rw[if_pos (by rw[c1,Um];rfl)]at kb
    obtain⟨BV,hBV⟩:∃w,w=Bf (w9 (l.map (·.1)) U):=⟨_,rfl⟩
    rw[←hBV]at kb
    have sBV:BV.sc=true:=by rw[hBV];exact zF _ _ _
    have cBV:=xm sBV
    obtain⟨y2,hy2⟩:∃y:wJ,y={y1 with vb:=ov,vf:=BV}:=⟨_,rfl⟩
    obtain⟨G2,eG2⟩:∃g,g=H1.set h3.next (vH y2):=⟨_,rfl⟩
    have st2:ur H1 h3.next 6 1 [BV] (some (vH {y1 with vb:=ov}))=some G2:=by rw[uK (by omega) (by show 6<9;omega) sBV,eG2,hy2];rfl
    have g2:G2.get h3.next=some (vH y2):=by rw[eG2,vP rfl,r7];rfl
    have low2:∀i c,i≠h3.next→G.get i=some c→G2.get i=some c:=fun i c c2 q=>by rw[eG2,vL c2];exact r4' i c c2 q
    have e0':(vH x)[0]?=some (.int .i64 1):=by rw[e0,h1']
    have e5:(vH {y1 with vb:=ov})[5]?=some ov:=rfl
    have e5':(vH y2)[5]?=some ov:=by rw[hy2];rfl
    have lu:=r8'.rd.len
    have a5:aM (aS AP.A) bB (at_ 5 AP.f241.body) [(2,.aC h.next 0),(3,.aC (h.next+1) 0),(4,.aC (h.next+2) 0),(7,.aC h3.next 0),(8,.bool false),(9,wB (vY (l.map (·.1))))] G=some (.normal,[(4,.aC (h.next+2) 0),(7,.aC h3.next 0),(8,.bool (decide (0<U.length)))],G2):=by
     clear ox rd hv x3 rd3 hv3 ox3 b0 b1 b2 b3 fin x5 hy0 tX km k1 go kw klow kd kg k3 hy1 hy2 eG1 eG2 low2 xB e0 r1 r4' r8 r9 r8' klow2 hBV hU
     generalize wB (vY (l.map (·.1)))=D at *
     generalize vH x=X at *
     generalize vH y1=Y1 at *
     generalize vH y2=Y2 at *
     generalize vH {y1 with vb:=ov}=Y3 at *
     by_cases c:0<U.length
     · rw[dt c]
       simp (disch:=omega)only[go_sem,vN,AP.f241,wM,wD,gM5,e0',Xq,gO,ks,sF,r1',r2,r2a,r3,gP1,wZ,r7,e5,kb,cBV,st2,g2,e5',lu]
     · rw[df c]
       simp (disch:=omega)only[go_sem,vN,AP.f241,wM,wD,gM5,e0',Xq,gO,ks,sF,r1',r2,r2a,r3,gP1,wZ,r7,e5,kb,cBV,st2,g2,e5',lu]
    have cy2:AV.aB (vH y2)=true:=by rw[hy2,hy1,hy0];simp [vH,sov,sBV]
    have f2':G2.floor=G.floor:=by rw[eG2];simp [r6]
    by_cases c:U=[]
    · have ea:xK (l.map (·.1)) x.m=none:=by unfold xK;rw[if_neg h0,if_pos h1',←hU,if_pos c]
      rw[ea]
      rw[c]at a5
      exact go (b:=false) a5 g2 low2 f2' cy2 (fun q=>by cases q) (fun _=>rfl)
    · have U0:0<U.length:=Xw.2 c
      have ea:xK (l.map (·.1)) x.m=some ⟨2,x.m.dst,x.m.src,0,[],U,w9 (l.map (·.1)) U,[],[]⟩:=by unfold xK;rw[if_neg h0,if_pos h1',←hU,if_neg c]
      rw[ea]
      rw[dt U0]at a5
      refine go (b:=true) a5 g2 low2 f2' cy2 (fun _ g hg gf=> ?_) (fun q=>by cases q)
      have og:wo 1 g ov U.length (ints U):=r8'.mono (by rw[gf,f2',r6]) fun i q=>by have:=r9 i q;rw[hg i (by omega),eG2,vL (by omega)]
      have s1:=og.KD (fl:=h.next) (m:=12) (t:=true) (by omega)
      have s2:snap g.get h.next 14 true BV=some BV:=by rw[hBV];unfold Bf BE;split<;>rfl
      rw[hy2,hy1,hy0]
      show fK (snap g.get h.next 14 true) [.int .i64 2,.int .i64 x.m.dst,.int .i64 x.m.src,.int .i64 0,.aQ,ov,BV,.aQ,.aQ]=some [.int .i64 2,.int .i64 x.m.dst,.int .i64 x.m.src,.int .i64 0,.aQ,Mc U,Bf (w9 (l.map (·.1)) U),.aQ,.aQ]
      rw[←hBV]
      simp only[fK,s1,s2];rfl
  by_cases h2':x.m.kind=2
  · have fm:x.m.vR.length≤6∧(∀b∈x.m.vR,xn b.2=true):=by
     have:=c2
     unfold zE xu at this
     rw[if_neg h0,if_neg h1',if_pos h2']at this
     simp only[u9,Xh,Xv]at this
     exact⟨this.2.1.2.2.2.1,this.2.1.2.2.2.2⟩
    have fl6:x.fs.length≤6:=by
     have:x.fs.length=x.m.vR.length:=by rw[←ox.hf];simp
     omega
    have ks:=kw 3
    have g1:=kg 3
    have klow2:=klow 3
    obtain⟨y1,hy1⟩:∃y:wJ,y={y0 with m:={y0.m with kind:=3}}:=⟨_,rfl⟩
    rw[←hy1]at ks g1 klow2
    obtain⟨G1,eG1⟩:∃g,g=G.set h3.next (vH y1):=⟨_,rfl⟩
    rw[←eG1]at ks g1 klow2
    obtain⟨gP1,gM1⟩:=k3.P_ klow2
    have xB:=k3.ext klow2
    have kq:=KX G1 v x.vf l x.fs sv (rd3.mono fun i c q=>xB i c q) (fun z hz=>⟨(hv3 z hz).1.mono xB,(hv3 z hz).2⟩) c1 (ox3.rf.mono xB) fl6 (fun b hb=>fm.2 b.1 (by rw[←ox.hf];exact Xl.2 ⟨b,hb,rfl⟩))
    rw[ox.hf]at kq
    obtain⟨U,hU⟩:∃U,U=xD (l.map (·.1)) x.m.vR:=⟨_,rfl⟩
    rw[←hU]at kq
    obtain⟨NV,hNV⟩:∃w,w=Sj U:=⟨_,rfl⟩
    rw[←hNV]at kq
    have sNV:NV.sc=true:=by rw[hNV];exact zF _ _ _
    have cNV:=xm sNV
    have lNV:ji false NV=some (.int .i64 U.length):=by
     have:=(A6 (n:=1) (k:=U.length) (h:=G1) (cs:=wW U) (by rw[wA];omega)).len
     rw[hNV];exact this
    obtain⟨y2,hy2⟩:∃y:wJ,y={y1 with vn:=NV}:=⟨_,rfl⟩
    obtain⟨G2,eG2⟩:∃g,g=G1.set h3.next (vH y2):=⟨_,rfl⟩
    have st2:ur G1 h3.next 7 1 [NV] (some (vH y1))=some G2:=by rw[uK (by rw[eG1];simpa using hOf) (by show 7<9;omega) sNV,eG2,hy2];rfl
    have g2:G2.get h3.next=some (vH y2):=by rw[eG2,vP rfl,g1];rfl
    have low2:∀i c,i≠h3.next→G.get i=some c→G2.get i=some c:=fun i c c2 q=>by rw[eG2,vL c2];exact klow2 i c c2 q
    have e0':(vH x)[0]?=some (.int .i64 2):=by rw[e0,h2']
    have e6:(vH x)[6]?=some x.vf:=rfl
    have e7':(vH y2)[7]?=some NV:=by rw[hy2];rfl
    have a5:aM (aS AP.A) bB (at_ 5 AP.f241.body) [(2,.aC h.next 0),(3,.aC (h.next+1) 0),(4,.aC (h.next+2) 0),(7,.aC h3.next 0),(8,.bool false),(9,wB (vY (l.map (·.1))))] G=some (.normal,[(4,.aC (h.next+2) 0),(7,.aC h3.next 0),(8,.bool (decide (0<U.length)))],G2):=by
     clear ox rd hv x3 rd3 hv3 ox3 b0 b1 b2 b3 fin x5 hy0 tX km k1 go kw klow kd kg k3 hy1 hy2 eG1 eG2 low2 xB e0 klow2 hNV hU fm
     generalize wB (vY (l.map (·.1)))=D at *
     generalize vH x=X at *
     generalize vH y1=Y1 at *
     generalize vH y2=Y2 at *
     by_cases c:0<U.length
     · rw[dt c]
       simp (disch:=omega)only[go_sem,vN,AP.f241,wM,wD,gM5,e0',Xq,gO,ks,gP1,wZ,gM1,e6,kq,g1,cNV,st2,g2,e7',lNV]
     · rw[df c]
       simp (disch:=omega)only[go_sem,vN,AP.f241,wM,wD,gM5,e0',Xq,gO,ks,gP1,wZ,gM1,e6,kq,g1,cNV,st2,g2,e7',lNV]
    have cy2:AV.aB (vH y2)=true:=by rw[hy2,hy1,hy0];simp [vH,sNV]
    have f2':G2.floor=G.floor:=by rw[eG2,eG1];simp
    by_cases c:U=[]
    · have ea:xK (l.map (·.1)) x.m=none:=by unfold xK;rw[if_neg h0,if_neg h1',if_pos h2',←hU,if_pos c]
      rw[ea]
      rw[c]at a5
      exact go (b:=false) a5 g2 low2 f2' cy2 (fun q=>by cases q) (fun _=>rfl)
    · have U0:0<U.length:=Xw.2 c
      have ea:xK (l.map (·.1)) x.m=some ⟨3,x.m.dst,x.m.src,0,[],[],[],U,[]⟩:=by unfold xK;rw[if_neg h0,if_neg h1',if_pos h2',←hU,if_neg c]
      rw[ea]
      rw[dt U0]at a5
      refine go (b:=true) a5 g2 low2 f2' cy2 (fun _ g hg gf=> ?_) (fun q=>by cases q)
      have s2:snap g.get h.next 14 true NV=some NV:=by rw[hNV];unfold Sj BE;split<;>rfl
      rw[hy2,hy1,hy0]
      show fK (snap g.get h.next 14 true) [.int .i64 3,.int .i64 x.m.dst,.int .i64 x.m.src,.int .i64 0,.aQ,.aQ,.aQ,NV,.aQ]=some [.int .i64 3,.int .i64 x.m.dst,.int .i64 x.m.src,.int .i64 0,.aQ,.aQ,.aQ,Sj U,.aQ]
      rw[←hNV]
      simp only[fK,s2];rfl
  by_cases h3':x.m.kind=3
  · have nl6:x.m.names.length≤6:=by
     have:=c2
     unfold zE xu at this
     rw[if_neg h0,if_neg h1',if_neg h2',if_pos h3']at this
     simp only[u9,Xh]at this
     exact this.2.1.2.2
    have ks:=kw 4
    have g1:=kg 4
    have klow2:=klow 4
    obtain⟨y1,hy1⟩:∃y:wJ,y={y0 with m:={y0.m with kind:=4}}:=⟨_,rfl⟩
    rw[←hy1]at ks g1 klow2
    obtain⟨G1,eG1⟩:∃g,g=G.set h3.next (vH y1):=⟨_,rfl⟩
    rw[←eG1]at ks g1 klow2
    obtain⟨e',H1,ov,r1,r2,r3,r4',r5,r6,r7,r8,r9,r10⟩:=Dx (y:=y1) (r4:=.aC (h.next+2) 0) k3 sv nl6 x.m.names [] rfl G1 .aQ [] klow2 (by rw[eG1];simp) (by rw[eG1];simp) (by rw[g1,hy1,hy0]) wo.nil (fun j q=>by cases q) (u6 _)
    have r1':Lp AP.A [2,3,4,7,14] AP.f241L1 [(2,.aC h.next 0),(3,.aC (h.next+1) 0),(4,.aC (h.next+2) 0),(7,.aC h3.next 0),(14,.int .i64 0)] G1=some (.exit 3,e',H1):=r1
    rw[List.nil_append]at r8
    obtain⟨U,hU⟩:∃U,U=zk (l.map (·.1)) x.m.names:=⟨_,rfl⟩
    rw[←hU]at r8
    have sov:=r8.sc
    have lu:=r8.rd.len
    obtain⟨y2,hy2⟩:∃y:wJ,y={y1 with ve:=ov}:=⟨_,rfl⟩
    have r7':H1.get h3.next=some (vH y2):=by rw[hy2];exact r7
    have e0':(vH x)[0]?=some (.int .i64 3):=by rw[e0,h3']
    have e8':(vH y2)[8]?=some ov:=by rw[hy2];rfl
    have a5:aM (aS AP.A) bB (at_ 5 AP.f241.body) [(2,.aC h.next 0),(3,.aC (h.next+1) 0),(4,.aC (h.next+2) 0),(7,.aC h3.next 0),(8,.bool false),(9,wB (vY (l.map (·.1))))] G=some (.normal,[(4,.aC (h.next+2) 0),(7,.aC h3.next 0),(8,.bool (decide (0<U.length)))],H1):=by
     clear ox rd hv x3 rd3 hv3 ox3 b0 b1 b2 b3 fin x5 hy0 tX km k1 go kw klow kd kg k3 hy1 hy2 eG1 e0 r1 r4' r8 r9 klow2 hU r7
     generalize wB (vY (l.map (·.1)))=D at *
     generalize vH x=X at *
     generalize vH y1=Y1 at *
     generalize vH y2=Y2 at *
     by_cases c:0<U.length
     · rw[dt c]
       simp (disch:=omega)only[go_sem,vN,AP.f241,wM,wD,gM5,e0',Xq,gO,ks,sF,r1',r2,r3,r7',e8',lu]
     · rw[df c]
       simp (disch:=omega)only[go_sem,vN,AP.f241,wM,wD,gM5,e0',Xq,gO,ks,sF,r1',r2,r3,r7',e8',lu]
    have cy2:AV.aB (vH y2)=true:=by rw[hy2,hy1,hy0];simp [vH,sov]
    by_cases c:U=[]
    · have ea:xK (l.map (·.1)) x.m=none:=by unfold xK;rw[if_neg h0,if_neg h1',if_neg h2',if_pos h3',←hU,if_pos c]
      rw[ea]
      rw[c]at a5
      exact go (b:=false) a5 r7' r4' r6 cy2 (fun q=>by cases q) (fun _=>rfl)
    · have U0:0<U.length:=Xw.2 c
      have ea:xK (l.map (·.1)) x.m=some ⟨4,x.m.dst,x.m.src,0,[],[],[],[],U⟩:=by unfold xK;rw[if_neg h0,if_neg h1',if_neg h2',if_pos h3',←hU,if_neg c]
      rw[ea]
      rw[dt U0]at a5
      refine go (b:=true) a5 r7' r4' r6 cy2 (fun _ g hg gf=> ?_) (fun q=>by cases q)
      have og:wo 9 g ov U.length (vW (U.map FP)):=r8.mono gf fun i q=>by have:=r9 i q;rw[hg i (by omega)]
      have s1:=og.KC (fl:=h.next) (m:=12) (t:=true) (by omega)
      rw[hy2,hy1,hy0]
      show fK (snap g.get h.next 14 true) [.int .i64 4,.int .i64 x.m.dst,.int .i64 x.m.src,.int .i64 0,.aQ,.aQ,.aQ,.aQ,ov]=some [.int .i64 4,.int .i64 x.m.dst,.int .i64 x.m.src,.int .i64 0,.aQ,.aQ,.aQ,.aQ,GV U]
      simp only[fK,s1];rfl
  have ea:xK (l.map (·.1)) x.m=none:=by unfold xK;rw[if_neg h0,if_neg h1',if_neg h2',if_neg h3']
  rw[ea]
  refine go (H2:=G) (y:=y0) (b:=false) ?_ gO (fun i c _ q=>q) rfl (by rw[hy0];rfl) (fun q=>by cases q) (fun _=>rfl)
  clear ox rd hv x3 rd3 hv3 ox3 b0 b1 b2 b3 fin x5 hy0 tX km k1 go k3 kw kg klow kd
  generalize vH x=X at *
  generalize wB (vY (l.map (·.1)))=D at *
  simp (disch:=omega)only[go_sem,vN,AP.f241,wM,wD,gM5,e0]
theorem Hc (h:H) (name text:ByteArray) (node:Nat) (wx:Int) (hn:node<4) (ht:text.size<1125899906842624):
 aS AP.A 246 [.str name,.int .i64 node,.int .i64 wx,.str text] h=some (.agg (vT (BZ name node wx text) (B8 ([0,0,0,0].set node wx))),h):=by
 obtain⟨h1,eh1⟩:∃g,g=h.dY.alloc (vT BJ .aQ):=⟨_,rfl⟩
 obtain⟨h2,eh2⟩:∃g,g=h1.alloc (ints [0,0,0,0]):=⟨_,rfl⟩
 obtain⟨h3,eh3⟩:∃g,g=h2.set (h.next+1) (ints ([0,0,0,0].set node wx)):=⟨_,rfl⟩
 obtain⟨h4,eh4⟩:∃g,g=h3.set h.next (vT (BZ name node wx text) (.aD (h.next+1) 0 4 1)):=⟨_,rfl⟩
 have n0:h.dY.next=h.next:=rfl
 have n1:h1.next=h.next+1:=by rw[eh1];simp
 have f2:h2.floor=h.next:=by rw[eh2,eh1];simp
 have f3:h3.floor=h.next:=by rw[eh3];simp [f2]
 have g2:h2.get (h.next+1)=some (ints [0,0,0,0]):=by rw[eh2,vO (by omega)]
 have gz3:h3.get h.next=some (vT BJ .aQ):=by rw[eh3,vL (by omega),eh2,vS (by omega),eh1,vO (by simp)]
 have g3:h3.get (h.next+1)=some (ints ([0,0,0,0].set node wx)):=by rw[eh3,vP rfl,g2];rfl
 have g4:h4.get h.next=some (vT (BZ name node wx text) (.aD (h.next+1) 0 4 1)):=by rw[eh4,vP rfl,gz3];rfl
 have g4':h4.get (h.next+1)=some (ints ([0,0,0,0].set node wx)):=by rw[eh4,vL (by omega),g3]
 have st3:ur h2 (h.next+1) node 1 [.int .i64 wx] (some (ints [0,0,0,0]))=some h3:=by
  rw[uK (by omega) (by simp;omega) rfl,eh3]
  congr 2
  match node,hn with
  |0,_=>rfl
  |1,_=>rfl
  |2,_=>rfl
  |3,_=>rfl
 have st4:ur h3 h.next 0 9 [.str name,.bool false,.aD (h.next+1) 0 4 1,.int .i64 wx,.int .i64 node,.int .i64 0,.str text,.int .i64 text.size,.int .i64 (yo text:Nat)] (some (vT BJ .aQ))=some h4:=by
  rw[eh4];exact wH (by omega) rfl rfl rfl
 have e1:h.dY.alloc [.str ⟨#[]⟩,.bool false,.aQ,.int .i64 0,.int .i64 0,.int .i64 0,.str ⟨#[]⟩,.int .i64 0,.int .i64 0]=h1:=eh1.symm
 have e2:h1.alloc (En 4 [.int .i64 0])=h2:=eh2.symm
 have kc:=CV h3 text ht
 have hlen:([0,0,0,0].set node wx:List Int).length=4:=by simp
 have o:wo 1 h4 (.aD (h.next+1) 0 4 1) 4 (ints ([0,0,0,0].set node wx)):=⟨by simp,.inr ⟨_,rfl,g4',by rw[eh4];simp;omega,by omega⟩⟩
 have s1:snap h4.get h.next 15 true (.aD (h.next+1) 0 4 1)=some (B8 ([0,0,0,0].set node wx)):=by
  have:=o.xV (fl:=h.next) (m:=13) (t:=true) (by rw[eh4];simp;omega)
  rw[this];unfold B8;rw[hlen]
 have body:aM (aS AP.A) bB AP.f246.body (params 0 [.str name,.int .i64 node,.int .i64 wx,.str text]) h.dY=some (.ret,[(8,.aC h.next 0)],h4):=by
  clear o s1 g4 g4' g3
  have it:((node:Nat):Int).toNat=node:=by omega
  simp (disch:=omega)only[go_sem,vN,AP.f246,n0,e1,n1,e2,it,g2,st3,kc,gz3,st4]
 refine uo (fn:=AP.f246) (h2:=h4) (e:=[(8,.aC h.next 0)]) (vs:=[.agg (vT (BZ name node wx text) (.aD (h.next+1) 0 4 1))]) rfl rfl rfl body ?_ ?_
 · simp only[AP.f246,cM,nk,mU,qQ,g4,tu];rfl
 · exact KB s1
def ET:List wR:=[eA]
def R6:Ae:=(xb ET 0 1).1
def U6:Ae:=(w8 [] R6).1
def U8:Ae:=(w8 ET U6).1
def Vf:Ae:=(w8 [] U8).1
def Vu:Ae:=(w8 ET Vf).1
theorem Mz:(xb ET 0 1).2=0∧(xb ET 1 1).2=2200:=by decide+kernel
theorem Kj:(w8 [] R6).2=(true,0)∧U6.kind=1∧U6.src=1:=by decide+kernel
theorem Km:(w8 ET U6).2=(true,0)∧U8.kind=2∧U8.vR.length=1:=by decide+kernel
theorem MA:(w8 [] U8).2=(true,0)∧Vf.names=[nA]:=by decide+kernel
theorem MB:(w8 ET Vf).2=(true,0)∧Vu.wT=ET:=by decide+kernel
theorem MR:(w8 ET Vu).2=(false,0)∧(w8 ET R6).2=(false,0):=by decide+kernel
theorem Au (G:H) (hf:G.floor≤G.next) (v:AV) (l:List wc) (sv:v.sc=true) (hn:l.length<1125899906842624) (rd:xo 9 G v l.length (vW l)) (hv:∀x∈l,xw G x∧x.2.sc=true) (x:wJ) (ox:zS G x):
 ∃(y:wJ) (h' A G':H) (O:Nat),aS AP.A 240 [.agg [v],.agg (vH x)] G=some (.bP [.agg (vH y),.bool (w8 (l.map (·.1)) x.m).2.1,.int .i64 (w8 (l.map (·.1)) x.m).2.2],h')∧y.m=(w8 (l.map (·.1)) x.m).1∧h'.alloc (vH vV)=A∧h'.next=O∧A.get O=some (vH vV)∧ur A O 0 9 (vH y) (some (vH vV))=some G'∧G'.get O=some (vH y)∧Ext G G'∧zS G' y∧G'.floor=G.floor∧G.next≤O∧O<G'.next:=by
 obtain⟨y,h',k,em,a⟩:=Mh G hf v l sv hn rd hv x ox
 have lt:=a.nx
 have ga:(h'.alloc (vH vV)).get h'.next=some (vH vV):=vO rfl
 have e1:Ext h' ((h'.alloc (vH vV)).set h'.next (vH y)):=fun i c q=>by have:=h'.lt _ _ q;rw[vL (by omega),vS (by omega)];exact q
 refine⟨y,h',_,(h'.alloc (vH vV)).set h'.next (vH y),h'.next,k,em,rfl,rfl,ga,wH (by simp;have:=a.fl;omega) rfl rfl (xG a.ok),by rw[vP rfl,ga];rfl,fun i c q=>e1 _ _ (a.ext _ _ q),a.ok.mono e1,by simp [a.fl],lt,by simp⟩
theorem F6 (G:H) (hf:G.floor≤G.next) (m:Ae) (s:Ve m):∃(A G':H) (O:Nat),G.alloc (vH vV)=A∧G.next=O∧A.get O=some (vH vV)∧ur A O 0 9 (vH (xc m)) (some (vH vV))=some G'∧G'.get O=some (vH (xc m))∧Ext G G'∧G'.floor=G.floor∧O<G'.next:=by
 have ga:(G.alloc (vH vV)).get G.next=some (vH vV):=vO rfl
 have e1:Ext G ((G.alloc (vH vV)).set G.next (vH (xc m))):=fun i c q=>by have:=G.lt _ _ q;rw[vL (by omega),vS (by omega)];exact q
 exact⟨_,(G.alloc (vH vV)).set G.next (vH (xc m)),G.next,rfl,rfl,ga,wH (by simp;omega) rfl rfl (xG (zr G s)),by rw[vP rfl,ga];rfl,e1,by simp,by simp⟩
theorem KP (a b:ByteArray):br .neq (.str a) (.str b)=some (.bool (!decide (a=b))):=by
 rw[BA]
 by_cases c:a=b
 · subst c;simp
 · rw[Fc c,df c]
theorem Ic {v w : AV} {a b : List ByteArray} (hab : a.length = b.length) (hl : a.length < 1125899906842624) (h : H) (ra : Rd h v (wW a)) (rb : Rd h w (wW b)) : ∀ (q r p p' : List ByteArray), a = p ++ q → b = p' ++ r → p.length = p'.length →
 (∃e',Lp AP.A [0,1,5] AP.f247L0 [(0,v),(1,w),(5,.int .i64 p.length)] h=some (.exit 0,e',h)∧q=r)∨
 (∃e',Lp AP.A [0,1,5] AP.f247L0 [(0,v),(1,w),(5,.int .i64 p.length)] h=some (.ret,e',h)∧look e' 4=.bool false∧q≠r)
 | [], r, p, p', hp, hp', hpp => by
   rw[Xe]at hp;subst hp
   have hr:r=[]:=Xm (by rw[hp',vF]at hab;omega)
   have ln:=ra.Bb.len
   rw[wA]at ln
   refine .inl ⟨[(0,v),(1,w),(5,.int .i64 a.length),(14,.bool false)],tF ?_,hr.symm⟩
   simp (disch:=omega)only[go_sem,vN,AP.f247L0,ln]
 | x :: q, [], p, p', hp, hp', hpp => by
   rw[hp,hp']at hab;simp at hab;omega
 | x :: q, y :: r, p, p', hp, hp', hpp => by
   have hlen:a.length=p.length+(q.length+1):=by rw[hp];simp
   have ln:=ra.Bb.len
   rw[wA]at ln
   obtain⟨ad,a1,_,a3⟩:=ra.AH
   obtain⟨bd,b1,_,b3⟩:=rb.AH
   have i1:=a1 p.length ⟨by omega,by omega⟩
   have i2:=a3 h (Ext.refl h) p.length x (by rw[hp];simp)
   have j1:=b1 p.length ⟨by omega,by omega⟩
   have j2:=b3 h (Ext.refl h) p.length y (by rw[hp',hpp];simp)
   have cmp:=KP x y
   have ih:=Ic hab hl h ra rb q r (p++[x]) (p'++[y]) (by rw[hp];simp) (by rw[hp'];simp) (by simp [hpp])
   have w1:(((p++[x]).length:Nat):Int)=(p.length:Int)+1:=by simp
   rw[w1]at ih
   by_cases c:x=y
   · rw[dt c]at cmp
     have step:aM (aS AP.A) bB AP.f247L0 (ax [(0,v),(1,w),(5,.int .i64 p.length)] [0,1,5]) h=some (.normal,[(0,v),(1,w),(5,.int .i64 ((p.length:Int)+1))],h):=by
      clear ih ra rb a1 a3 b1 b3 hp hp'
      simp (disch:=omega)only[go_sem,vN,AP.f247L0,ln,i1,i2,j1,j2,cmp,Bool.not_true]
     rcases ih with ⟨e',r1,r2⟩|⟨e',r1,r2,r3⟩
     · exact .inl ⟨e',tG step r1,by rw[c,r2]⟩
     · exact .inr ⟨e',tG step r1,r2,fun q=>r3 (XM q).2⟩
   · rw[df c]at cmp
     refine .inr ⟨[(4,.bool false)],uc ?_,rfl,fun q=>c (XM q).1⟩
     clear ih ra rb a1 a3 b1 b3 hp hp'
     simp (disch:=omega)only[go_sem,vN,AP.f247L0,ln,i1,i2,j1,j2,cmp,Bool.not_false]
theorem HZ (h:H) (v w:AV) (a b:List ByteArray) (ra:Rd h v (wW a)) (rb:Rd h w (wW b)) (hl:a.length<1125899906842624) (hb:b.length<1125899906842624):aS AP.A 247 [v,w] h=some (.bool (decide (a=b)),h):=by
 have la:=ra.Bb.len
 rw[wA]at la
 have lb:=rb.Bb.len
 rw[wA]at lb
 have ra':Rd h.dY v (wW a):=ra.mono fun i c q=>q
 have rb':Rd h.dY w (wW b):=rb.mono fun i c q=>q
 by_cases c:a.length=b.length
 · rcases Ic c hl h.dY ra' rb' a b [] [] rfl rfl rfl with ⟨e',r1,r2⟩|⟨e',r1,r2,r3⟩
   · have r1':Lp AP.A [0,1,5] AP.f247L0 [(0,v),(1,w),(5,.int .i64 0)] h.dY=some (.exit 0,e',h.dY):=r1
     rw[dt r2]
     refine uo (fn:=AP.f247) (h2:=h.dY) (e:=[(4,.bool true)]) rfl rfl rfl ?_ rfl rfl
     clear ra rb ra' rb' r1 r2
     simp (disch:=omega)only[go_sem,vN,AP.f247,la,lb,c,sF,r1']
   · have r1':Lp AP.A [0,1,5] AP.f247L0 [(0,v),(1,w),(5,.int .i64 0)] h.dY=some (.ret,e',h.dY):=r1
     rw[df r3]
     refine uo (fn:=AP.f247) (h2:=h.dY) (e:=e') (vs:=[.bool false]) rfl rfl rfl ?_ (by simp only[AP.f247,cM,nk,r2];rfl) rfl
     clear ra rb ra' rb' r1 r3
     simp (disch:=omega)only[go_sem,vN,AP.f247,la,lb,c,sF,r1']
 · rw[df (fun q=>c (by rw[q]))]
   refine uo (fn:=AP.f247) (h2:=h.dY) (e:=[(4,.bool false)]) rfl rfl rfl ?_ rfl rfl
   clear ra rb ra' rb'
   simp (disch:=omega)only[go_sem,vN,AP.f247,la,lb]
def Es (a b:Ae):Bool:=decide (a.kind=b.kind)&&(decide (a.src=b.src)&&(decide (a.dst=b.dst)&&(decide (a.root=b.root)&&(decide (a.wS=b.wS)&&(decide (a.wX=b.wX)&&(decide (a.vR=b.vR)&&(decide (a.names=b.names)&&decide (a.wT=b.wT))))))))
theorem I7 {a b:Ae}:Es a b=true↔a=b:=by
 cases a;cases b
 simp only[Es,u9,Xh,Ae.mk.injEq]
theorem A9 (a:Ae):Es a a=true:=I7.2 rfl
theorem He (h : H) (x y : wJ) (ox : zS h x) (oy : zS h y) : aS AP.A 232 [.agg (vH x), .agg (vH y)] h = some (.bool (Es x.m y.m), h) := by
 obtain⟨h1,eh1⟩:∃g,g=h.dY.alloc (vH x):=⟨_,rfl⟩
 obtain⟨h2,eh2⟩:∃g,g=h1.alloc (vH y):=⟨_,rfl⟩
 have x2:Ext h h2:=fun i c q=>by rw[eh2,eh1];exact(((Ext.refl h.dY).alloc _).alloc _) i c q
 have n0:h.dY.next=h.next:=rfl
 have n1:h1.next=h.next+1:=by rw[eh1];simp
 have g1:h2.get h.next=some (vH x):=by rw[eh2,vS (by omega),eh1];exact vO rfl
 have g2:h2.get (h.next+1)=some (vH y):=by rw[eh2,vO (by omega)]
 have o1:=ox.mono x2
 have o2:=oy.mono x2
 have lx:(vH x).length=9:=rfl
 have ly:(vH y).length=9:=rfl
 have cx:=xG ox
 have cy:=xG oy
 have ex:x.fs.length=x.m.vR.length:=by rw[←ox.hf];simp
 have ee:x.es.length=x.m.wT.length:=by rw[←ox.he];simp
 have k1:=CD h2 _ _ _ _ o1.rd o2.rd (by have:=ox.zd;omega)
 have k2:=CD h2 _ _ _ _ o1.rb o2.rb (by have:=ox.zb;omega)
 have k3:=LZ h2 _ _ _ _ o1.rf o2.rf (by have:=ox.zf;omega)
 rw[ox.hf,oy.hf]at k3
 have k4:=HZ h2 _ _ _ _ o1.rn o2.rn (by have:=ox.zn;omega) (by have:=oy.zn;omega)
 have k5:=Dy h2 _ _ _ _ (by have:=ox.ze;omega) o1.re o2.re o1.ve o2.ve
 rw[ox.he,oy.he]at k5
 refine uo (fn:=AP.f232) (h2:=h2) (e:=[(4,.bool (Es x.m y.m))]) rfl rfl rfl ?_ rfl rfl
 unfold Es
 have a0:(vH x)[0]?=some (.int .i64 x.m.kind):=rfl
 have a1:(vH x)[1]?=some (.int .i64 x.m.src):=rfl
 have a2:(vH x)[2]?=some (.int .i64 x.m.dst):=rfl
 have a3:(vH x)[3]?=some (.int .i64 x.m.root):=rfl
 have a4:(vH x)[4]?=some x.vd:=rfl
 have a5:(vH x)[5]?=some x.vb:=rfl
 have a6:(vH x)[6]?=some x.vf:=rfl
 have a7:(vH x)[7]?=some x.vn:=rfl
 have a8:(vH x)[8]?=some x.ve:=rfl
 have b0:(vH y)[0]?=some (.int .i64 y.m.kind):=rfl
 have b1:(vH y)[1]?=some (.int .i64 y.m.src):=rfl
 have b2:(vH y)[2]?=some (.int .i64 y.m.dst):=rfl
 have b3:(vH y)[3]?=some (.int .i64 y.m.root):=rfl
 have b4:(vH y)[4]?=some y.vd:=rfl
 have b5:(vH y)[5]?=some y.vb:=rfl
 have b6:(vH y)[6]?=some y.vf:=rfl
 have b7:(vH y)[7]?=some y.vn:=rfl
 have b8:(vH y)[8]?=some y.ve:=rfl
 clear ox oy o1 o2 x2 ex ee
 generalize decide (x.m.wS=y.m.wS)=B1 at *
 generalize decide (x.m.wX=y.m.wX)=B2 at *
 generalize decide (x.m.vR=y.m.vR)=B3 at *
 generalize decide (x.m.names=y.m.names)=B4 at *
 generalize decide (x.m.wT=y.m.wT)=B5 at *
 generalize vH x=A at *
 generalize vH y=B at *
 by_cases c0:x.m.kind=y.m.kind
 · by_cases c1 : x.m.src = y.m.src
   · by_cases c2:x.m.dst=y.m.dst
     · by_cases c3:x.m.root=y.m.root
       · cases B1 with
         |false=>simp (disch:=omega)only[go_sem,vN,AP.f232,lx,ly,cx,cy,n0,←eh1,n1,←eh2,g1,g2,a0,a1,a2,a3,a4,b0,b1,b2,b3,b4,k1]
         | true =>
           cases B2 with
           |false=>simp (disch:=omega)only[go_sem,vN,AP.f232,lx,ly,cx,cy,n0,←eh1,n1,←eh2,g1,g2,a0,a1,a2,a3,a4,a5,b0,b1,b2,b3,b4,b5,k1,k2]
           | true =>
             cases B3 with
             |false=>simp (disch:=omega)only[go_sem,vN,AP.f232,lx,ly,cx,cy,n0,←eh1,n1,←eh2,g1,g2,a0,a1,a2,a3,a4,a5,a6,b0,b1,b2,b3,b4,b5,b6,k1,k2,k3]
             | true =>
               cases B4<;>cases B5<;>simp (disch:=omega)only[go_sem,vN,AP.f232,lx,ly,cx,cy,n0,←eh1,n1,←eh2,g1,g2,a0,a1,a2,a3,a4,a5,a6,a7,a8,b0,b1,b2,b3,b4,b5,b6,b7,b8,k1,k2,k3,k4,k5]
       · simp (disch:=omega)only[go_sem,vN,AP.f232,lx,ly,cx,cy,n0,←eh1,n1,←eh2,g1,g2,a0,a1,a2,a3,b0,b1,b2,b3]
     · simp (disch:=omega)only[go_sem,vN,AP.f232,lx,ly,cx,cy,n0,←eh1,n1,←eh2,g1,g2,a0,a1,a2,b0,b1,b2]
   · simp (disch:=omega)only[go_sem,vN,AP.f232,lx,ly,cx,cy,n0,←eh1,n1,←eh2,g1,g2,a0,a1,b0,b1]
 · simp (disch:=omega)only[go_sem,vN,AP.f232,lx,ly,cx,cy,n0,←eh1,n1,←eh2,g1,g2,a0,b0]
theorem Iz:AP.f242.body=.seq (at_ 0 AP.f242.body) (.seq (at_ 1 AP.f242.body) (.seq (at_ 2 AP.f242.body) (.seq (at_ 3 AP.f242.body) (.seq (at_ 4 AP.f242.body) (.seq (at_ 5 AP.f242.body) (.seq (at_ 6 AP.f242.body) (.seq (at_ 7 AP.f242.body) (.seq (at_ 8 AP.f242.body) (.seq (at_ 9 AP.f242.body) (DO 10 AP.f242.body)))))))))):=rfl
def pA:wc:=(eA,B8 [1,0,0,0])
theorem Dn (g:H):∀x∈[pA],xw g x∧x.2.sc=true:=fun x hx=>by obtain rfl:=XK.1 hx;exact⟨xw.ar (e:=eA) rfl (by decide) (by decide),Ik [1,0,0,0]⟩
theorem U7 {g:H} {n:Nat} (hg:g.get n=some (vT eA (B8 [1,0,0,0]))):xo 9 g (.aD n 0 1 9) [pA].length (vW [pA]):=R7 hg rfl
theorem I4:[pA].map (·.1)=ET:=rfl
set_option maxHeartbeats 8000000 in
theorem IA (h : H) : aS AP.A 242 [] h = some (.bool true, h) := by
 obtain⟨E,hE⟩:∃E,E=vT eA (B8 [1,0,0,0]):=⟨_,rfl⟩
 have lE:E.length=9:=by rw[hE];rfl
 have cE:AV.aB E=true:=by rw[hE];exact yx (Ik _)
 have fE:setFrom Z9 0 E=E:=by rw[hE];rfl
 have k0:∀g,aS AP.A 246 [.str ⟨#[97]⟩,.int .i64 0,.int .i64 1,.str ⟨#[104,105]⟩] g=some (.agg E,g):=fun g=>by rw[hE];exact Hc g nA VH 0 1 (by omega) (by decide)
 obtain⟨G,hG⟩:∃G,G=((h.dY.alloc E).alloc [.aQ]).set (h.next+1) [.aD h.next 0 1 9]:=⟨_,rfl⟩
 have g1:G.get h.next=some E:=by rw[hG];simp (disch:=first|omega|(simp only[xk,W9,Xa,vk,Nat.reduceAdd];first|done|omega|fail)|fail)only[xk,Ao,Xc,W9,Xa,vk,Nat.reduceAdd]
 have g2:G.get (h.next+1)=some [.aD h.next 0 1 9]:=by rw[hG];simp (disch:=first|omega|(simp only[xk,W9,Xa,vk,Nat.reduceAdd];first|done|omega|fail)|fail)only[xk,Ao,Xc,W9,Xa,vk,Nat.reduceAdd]
 have gf:G.floor=h.next:=by rw[hG];simp
 have gn:G.next=h.next+1+1:=by rw[hG];simp
 have b0:aM (aS AP.A) bB (.seq (at_ 0 AP.f242.body) (at_ 1 AP.f242.body)) (params 0 []) h.dY=some (.normal,[(1,.aC (h.next+1) 0)],G):=by
  have gg:=hG.symm
  clear hE
  simp (disch:=first|omega|(simp only[xk,W9,Xa,vk,Nat.reduceAdd];first|done|omega|fail)|(simp (disch:=first|omega|(simp only[xk,W9,Xa,vk,Nat.reduceAdd];first|done|omega|fail)|fail)only[xk,Ao,Xc,W9,Xa,vk,Nat.reduceAdd];done)|fail)only[go_sem,vN,AK,AP.f242,wM,wD,k0,lE,cE,fE,gg]
 have sv:(AV.aD h.next 0 1 9).sc=true:=rfl
 have lz:([pA].length:Nat)<1125899906842624:=by show 1<_;omega
 have lz0:(([]:List wc).length:Nat)<1125899906842624:=by show 0<_;omega
 have rdA:∀{g:H},g.get h.next=some E→xo 9 g (.aD h.next 0 1 9) [pA].length (vW [pA]):=fun hg=>U7 (by rw[←hE];exact hg)
 have rd0:∀g:H,xo 9 g .aQ ([]:List wc).length (vW []):=fun g=>⟨rfl,rfl,fun s q=>by cases q⟩
 have hv0:∀g:H,∀x∈([]:List wc),xw g x∧x.2.sc=true:=fun g x hx=>by cases hx
 have sO:=EX ET 0 1
 have sO1:=EX ET 1 1
 have z0:([.int .i64 0,.int .i64 0,.int .i64 0,.int .i64 0,.aQ,.aQ,.aQ,.aQ,.aQ]:List AV)=vH vV:=rfl
 have cz:AV.aB (vH vV)=true:=rfl
 have lx:∀x,(vH x).length=9:=fun x=>rfl
 have tX:∀x,List.take 9 (vH x)=vH x:=fun x=>rfl
 have k2:=EY G _ [pA] sv lz (rdA g1) (Dn G) 0 1
 rw[I4,Mz.1]at k2
 obtain⟨A2,G2,O2,a2,n2,ga2,st2,go2,e2,f2,lt2⟩:=F6 G (by omega) _ sO
 obtain⟨Y2,hY2⟩:∃Y,Y=vH (xc (xb ET 0 1).1):=⟨_,rfl⟩
 rw[←hY2]at k2 st2 go2
 have cY2:AV.aB Y2=true:=by rw[hY2];exact xG (zr G sO)
 have b2:aM (aS AP.A) bB (at_ 2 AP.f242.body) [(1,.aC (h.next+1) 0)] G=some (.normal,[(1,.aC (h.next+1) 0),(2,.aC O2 0),(3,.int .i64 0)],G2):=by
  clear sO sO1 hE k0 rdA rd0 hv0 e2
  generalize vH vV=Z at *
  simp (disch:=omega)only[go_sem,vN,AP.f242,wM,wD,g2,wZ,k2,z0,cz,a2,n2,ga2,st2]
 have p1:=e2 _ _ g1
 have p2:=e2 _ _ g2
 obtain⟨y4,w4,A4,G4,O4,k4,m4,a4,n4,ga4,st4,go4,e4,ok4,f4,l4,l4'⟩:=Au G2 (by omega) .aQ [] rfl lz0 (rd0 _) (hv0 _) (xc (xb ET 0 1).1) (zr G2 sO)
 have m4':y4.m=U6:=m4
 have k4':aS AP.A 240 [.agg [.aQ],.agg Y2] G2=some (.bP [.agg (vH y4),.bool (w8 [] R6).2.1,.int .i64 (w8 [] R6).2.2],w4):=by rw[hY2];exact k4
 rw[Kj.1]at k4'
 have q2:=e4 _ _ go2
 have q1:=e4 _ _ p1
 have q1':=e4 _ _ p2
 have lY2:Y2.length=9:=by rw[hY2];rfl
 have tY2:List.take 9 Y2=Y2:=by rw[hY2];rfl
 have b3:aM (aS AP.A) bB (at_ 3 AP.f242.body) [(1,.aC (h.next+1) 0),(2,.aC O2 0),(3,.int .i64 0)] G2=some (.normal,[(1,.aC (h.next+1) 0),(2,.aC O2 0),(3,.int .i64 0),(4,.aC O4 0),(5,.bool true),(6,.int .i64 0)],G4):=by
  clear sO sO1 hE k0 rdA rd0 hv0 e2 e4 k4 ok4 m4 m4' lx tX hY2
  generalize vH vV=Z at *
  generalize vH y4=Y4 at *
  simp (disch:=omega)only[go_sem,vN,AP.f242,wM,wD,go2,CA,wL,lY2,tY2,Xf,k4',z0,cz,a4,n4,ga4,st4]
 obtain⟨y7,w7,A7,G7,O7,k7,m7,a7,n7,ga7,st7,go7,e7,ok7,f7,l7,l7'⟩:=Au G4 (by omega) _ [pA] sv lz (rdA q1) (Dn _) y4 ok4
 rw[I4,m4',Km.1]at k7
 have m7':y7.m=U8:=by rw[m7,m4'];rfl
 have r1:=e7 _ _ q1
 have r1':=e7 _ _ q1'
 have r2:=e7 _ _ q2
 have r4:=e7 _ _ go4
 have lY4:=lx y4
 have tY4:=tX y4
 have b4:aM (aS AP.A) bB (at_ 4 AP.f242.body) [(1,.aC (h.next+1) 0),(2,.aC O2 0),(3,.int .i64 0),(4,.aC O4 0),(5,.bool true),(6,.int .i64 0)] G4=some (.normal,[(1,.aC (h.next+1) 0),(2,.aC O2 0),(3,.int .i64 0),(4,.aC O4 0),(5,.bool true),(6,.int .i64 0),(7,.aC O7 0),(8,.bool true),(9,.int .i64 0)],G7):=by
  clear sO sO1 hE k0 rdA rd0 hv0 e2 e4 e7 k4 ok4 ok7 m4 m4' m7 m7' lx tX hY2
  generalize vH vV=Z at *
  generalize vH y4=Y4 at *
  generalize vH y7=Y7 at *
  simp (disch:=omega)only[go_sem,vN,AP.f242,wM,wD,q1',wZ,go4,CA,wL,lY4,tY4,Xf,k7,z0,cz,a7,n7,ga7,st7]
 obtain⟨y10,w10,A10,G10,O10,k10,m10,a10,n10,ga10,st10,go10,e10,ok10,f10,l10,l10'⟩:=Au G7 (by omega) .aQ [] rfl lz0 (rd0 _) (hv0 _) y7 ok7
 have m10':y10.m=Vf:=by rw[m10,m7'];rfl
 rw[m7',Xx,MA.1]at k10
 have s1:=e10 _ _ r1
 have s1':=e10 _ _ r1'
 have s2:=e10 _ _ r2
 have s4:=e10 _ _ r4
 have s7:=e10 _ _ go7
 have lY7:=lx y7
 have tY7:=tX y7
 have b5:aM (aS AP.A) bB (at_ 5 AP.f242.body) [(1,.aC (h.next+1) 0),(2,.aC O2 0),(3,.int .i64 0),(4,.aC O4 0),(5,.bool true),(6,.int .i64 0),(7,.aC O7 0),(8,.bool true),(9,.int .i64 0)] G7=some (.normal,[(1,.aC (h.next+1) 0),(2,.aC O2 0),(3,.int .i64 0),(4,.aC O4 0),(5,.bool true),(6,.int .i64 0),(7,.aC O7 0),(8,.bool true),(9,.int .i64 0),(10,.aC O10 0),(11,.bool true),(12,.int .i64 0)],G10):=by
  clear sO sO1 hE k0 rdA rd0 hv0 e2 e4 e7 e10 k4 ok4 ok7 ok10 m4 m4' m7 m7' m10 m10' lx tX hY2
  generalize vH vV=Z at *
  generalize vH y7=Y7 at *
  generalize vH y10=Y10 at *
  simp (disch:=omega)only[go_sem,vN,AP.f242,wM,wD,go7,CA,wL,lY7,tY7,Xf,k10,z0,cz,a10,n10,ga10,st10]
 obtain⟨y13,w13,A13,G13,O13,k13,m13,a13,n13,ga13,st13,go13,e13,ok13,f13,l13,l13'⟩:=Au G10 (by omega) _ [pA] sv lz (rdA s1) (Dn _) y10 ok10
 rw[I4,m10',MB.1]at k13
 have m13':y13.m=Vu:=by rw[m13,m10'];rfl
 have t1:=e13 _ _ s1
 have t1':=e13 _ _ s1'
 have t2:=e13 _ _ s2
 have t4:=e13 _ _ s4
 have t7:=e13 _ _ s7
 have t10:=e13 _ _ go10
 have lY10:=lx y10
 have tY10:=tX y10
 have b6:aM (aS AP.A) bB (at_ 6 AP.f242.body) [(1,.aC (h.next+1) 0),(2,.aC O2 0),(3,.int .i64 0),(4,.aC O4 0),(5,.bool true),(6,.int .i64 0),(7,.aC O7 0),(8,.bool true),(9,.int .i64 0),(10,.aC O10 0),(11,.bool true),(12,.int .i64 0)] G10=some (.normal,[(1,.aC (h.next+1) 0),(2,.aC O2 0),(3,.int .i64 0),(4,.aC O4 0),(5,.bool true),(6,.int .i64 0),(7,.aC O7 0),(8,.bool true),(9,.int .i64 0),(10,.aC O10 0),(11,.bool true),(12,.int .i64 0),(13,.aC O13 0),(14,.bool true),(15,.int .i64 0)],G13):=by
  clear sO sO1 hE k0 rdA rd0 hv0 e2 e4 e7 e10 e13 k4 ok4 ok7 ok10 ok13 m4 m4' m7 m7' m10 m10' m13 m13' lx tX hY2
  generalize vH vV=Z at *
  generalize vH y10=Y10 at *
  generalize vH y13=Y13 at *
  simp (disch:=omega)only[go_sem,vN,AP.f242,wM,wD,s1',wZ,go10,CA,wL,lY10,tY10,Xf,k13,z0,cz,a13,n13,ga13,st13]
 obtain⟨y16,w16,A16,G16,O16,k16,m16,a16,n16,ga16,st16,go16,e16,ok16,f16,l16,l16'⟩:=Au G13 (by omega) _ [pA] sv lz (rdA t1) (Dn _) y13 ok13
 rw[I4,m13',MR.1]at k16
 have u1:=e16 _ _ t1
 have u1':=e16 _ _ t1'
 have u2:=e16 _ _ t2
 have u4:=e16 _ _ t4
 have u7:=e16 _ _ t7
 have u10:=e16 _ _ t10
 have u13:=e16 _ _ go13
 have lY13:=lx y13
 have tY13:=tX y13
 have b7:aM (aS AP.A) bB (at_ 7 AP.f242.body) [(1,.aC (h.next+1) 0),(2,.aC O2 0),(3,.int .i64 0),(4,.aC O4 0),(5,.bool true),(6,.int .i64 0),(7,.aC O7 0),(8,.bool true),(9,.int .i64 0),(10,.aC O10 0),(11,.bool true),(12,.int .i64 0),(13,.aC O13 0),(14,.bool true),(15,.int .i64 0)] G13=some (.normal,[(1,.aC (h.next+1) 0),(2,.aC O2 0),(3,.int .i64 0),(4,.aC O4 0),(5,.bool true),(6,.int .i64 0),(7,.aC O7 0),(8,.bool true),(9,.int .i64 0),(10,.aC O10 0),(11,.bool true),(12,.int .i64 0),(13,.aC O13 0),(14,.bool true),(15,.int .i64 0),(17,.bool false),(18,.int .i64 0)],G16):=by
  clear sO sO1 hE k0 rdA rd0 hv0 e2 e4 e7 e10 e13 e16 k4 ok4 ok7 ok10 ok13 ok16 m4 m4' m7 m7' m10 m10' m13 m13' m16 lx tX hY2
  generalize vH vV=Z at *
  generalize vH y13=Y13 at *
  generalize vH y16=Y16 at *
  simp (disch:=omega)only[go_sem,vN,AP.f242,wM,wD,t1',wZ,go13,CA,wL,lY13,tY13,Xf,k16,z0,cz,a16,n16,ga16,st16]
 obtain⟨y19,w19,A19,G19,O19,k19,m19,a19,n19,ga19,st19,go19,e19,ok19,f19,l19,l19'⟩:=Au G16 (by omega) _ [pA] sv lz (rdA u1) (Dn _) (xc (xb ET 0 1).1) (zr G16 sO)
 have k19':aS AP.A 240 [.agg [.aD h.next 0 1 9],.agg Y2] G16=some (.bP [.agg (vH y19),.bool (w8 ET R6).2.1,.int .i64 (w8 ET R6).2.2],w19):=by rw[hY2];exact k19
 rw[MR.2]at k19'
 have x1:=e19 _ _ u1
 have x1':=e19 _ _ u1'
 have x4:=e19 _ _ u4
 have x7:=e19 _ _ u7
 have x10:=e19 _ _ u10
 have x13:=e19 _ _ u13
 have b8:aM (aS AP.A) bB (at_ 8 AP.f242.body) [(1,.aC (h.next+1) 0),(2,.aC O2 0),(3,.int .i64 0),(4,.aC O4 0),(5,.bool true),(6,.int .i64 0),(7,.aC O7 0),(8,.bool true),(9,.int .i64 0),(10,.aC O10 0),(11,.bool true),(12,.int .i64 0),(13,.aC O13 0),(14,.bool true),(15,.int .i64 0),(17,.bool false),(18,.int .i64 0)] G16=some (.normal,[(1,.aC (h.next+1) 0),(3,.int .i64 0),(4,.aC O4 0),(5,.bool true),(6,.int .i64 0),(7,.aC O7 0),(8,.bool true),(9,.int .i64 0),(10,.aC O10 0),(11,.bool true),(12,.int .i64 0),(13,.aC O13 0),(14,.bool true),(15,.int .i64 0),(17,.bool false),(18,.int .i64 0),(20,.bool false),(21,.int .i64 0)],G19):=by
  clear sO sO1 hE k0 rdA rd0 hv0 e2 e4 e7 e10 e13 e16 e19 k4 ok4 ok7 ok10 ok13 ok16 ok19 m4 m4' m7 m7' m10 m10' m13 m13' m16 m19 lx tX hY2 k19
  generalize vH vV=Z at *
  generalize vH y19=Y19 at *
  simp (disch:=omega)only[go_sem,vN,AP.f242,wM,wD,u1',wZ,u2,CA,wL,lY2,tY2,Xf,k19',z0,cz,a19,n19,ga19,st19]
 have k22:=EY G19 _ [pA] sv lz (rdA x1) (Dn G19) 1 1
 rw[I4,Mz.2]at k22
 obtain⟨A22,G22,O22,a22,n22,ga22,st22,go22,e22,f22,lt22⟩:=F6 G19 (by omega) _ sO1
 have v1:=e22 _ _ x1
 have v1':=e22 _ _ x1'
 have v4:=e22 _ _ x4
 have v7:=e22 _ _ x7
 have v10:=e22 _ _ x10
 have v13:=e22 _ _ x13
 have b9:aM (aS AP.A) bB (at_ 9 AP.f242.body) [(1,.aC (h.next+1) 0),(3,.int .i64 0),(4,.aC O4 0),(5,.bool true),(6,.int .i64 0),(7,.aC O7 0),(8,.bool true),(9,.int .i64 0),(10,.aC O10 0),(11,.bool true),(12,.int .i64 0),(13,.aC O13 0),(14,.bool true),(15,.int .i64 0),(17,.bool false),(18,.int .i64 0),(20,.bool false),(21,.int .i64 0)] G19=some (.normal,[(1,.aC (h.next+1) 0),(3,.int .i64 0),(4,.aC O4 0),(5,.bool true),(6,.int .i64 0),(7,.aC O7 0),(8,.bool true),(9,.int .i64 0),(10,.aC O10 0),(11,.bool true),(12,.int .i64 0),(13,.aC O13 0),(14,.bool true),(15,.int .i64 0),(17,.bool false),(18,.int .i64 0),(20,.bool false),(21,.int .i64 0),(23,.int .i64 2200)],G22):=by
  clear sO sO1 hE k0 rdA rd0 hv0 e2 e4 e7 e10 e13 e16 e19 e22 k4 ok4 ok7 ok10 ok13 ok16 ok19 m4 m4' m7 m7' m10 m10' m13 m13' m16 m19 lx tX hY2 k19
  generalize vH vV=Z at *
  generalize vH (xc (xb ET 1 1).1)=Y22 at *
  simp (disch:=omega)only[go_sem,vN,AP.f242,wM,wD,x1',wZ,k22,z0,cz,a22,n22,ga22,st22]
 have E7:Ext G7 G22:=fun i c q=>e22 _ _ (e19 _ _ (e16 _ _ (e13 _ _ (e10 _ _ q))))
 have E10:Ext G10 G22:=fun i c q=>e22 _ _ (e19 _ _ (e16 _ _ (e13 _ _ q)))
 have E13:Ext G13 G22:=fun i c q=>e22 _ _ (e19 _ _ (e16 _ _ q))
 have ok7':=ok7.mono E7
 have ok10':=ok10.mono E10
 have ok13':=ok13.mono E13
 obtain⟨W,hW⟩:∃g,g=G22.alloc [.str ⟨#[97]⟩]:=⟨_,rfl⟩
 have hw:=hW.symm
 have gW:W.get G22.next=some [.str ⟨#[97]⟩]:=by rw[hW];exact vO rfl
 have xW:Ext G22 W:=by rw[hW];exact(Ext.refl G22).alloc _
 have w1:=xW _ _ v1
 have w1':=xW _ _ v1'
 have w13:=xW _ _ v13
 have kn:aS AP.A 247 [y10.vn,.aD G22.next 0 1 1] W=some (.bool true,W):=by
  have:=HZ W y10.vn (.aD G22.next 0 1 1) y10.m.names [nA] (ok10'.rn.mono fun i c q=>xW i c q) ⟨by simp only[aT,if_true,gW];rfl,fun _=>by simp⟩ (by have:=ok10.zn;omega) (by show 1<_;omega)
  rw[m10',dt MA.2]at this;exact this
 have ke:aS AP.A 207 [y13.ve,.aD h.next 0 1 9] W=some (.bool true,W):=by
  have:=Dy W y13.ve (.aD h.next 0 1 9) y13.es [pA] (by have:=ok13.ze;rw[←ok13.he,Xd]at this;omega) (ok13'.re.mono fun i c q=>xW i c q) (rdA w1) (fun x hx=>(ok13'.mono xW).ve x hx) (Dn W)
  rw[ok13'.he,m13',I4,dt MB.2]at this;exact this
 have c40:(vH y4)[0]?=some (.int .i64 1):=by show some (AV.int .i64 y4.m.kind)=_;rw[m4',Kj.2.1]
 have c41:(vH y4)[1]?=some (.int .i64 1):=by show some (AV.int .i64 y4.m.src)=_;rw[m4',Kj.2.2]
 have c70:(vH y7)[0]?=some (.int .i64 2):=by show some (AV.int .i64 y7.m.kind)=_;rw[m7',Km.2.1]
 have c76:(vH y7)[6]?=some y7.vf:=rfl
 have l76:ji false y7.vf=some (.int .i64 1):=by
  have:=ok7.rf.rd.len
  rw[show y7.fs.length=1 by have:=Xy List.length ok7.hf;rw[Xd,m7',Km.2.2]at this;exact this]at this
  exact this
 have c107:(vH y10)[7]?=some y10.vn:=rfl
 have c138:(vH y13)[8]?=some y13.ve:=rfl
 have kc:=fun (g:H) n=>My g n
 simp only[I]at kc
 have bF:∃hF,aM (aS AP.A) bB (DO 10 AP.f242.body) [(1,.aC (h.next+1) 0),(3,.int .i64 0),(4,.aC O4 0),(5,.bool true),(6,.int .i64 0),(7,.aC O7 0),(8,.bool true),(9,.int .i64 0),(10,.aC O10 0),(11,.bool true),(12,.int .i64 0),(13,.aC O13 0),(14,.bool true),(15,.int .i64 0),(17,.bool false),(18,.int .i64 0),(20,.bool false),(21,.int .i64 0),(23,.int .i64 2200)] G22=some (.ret,[(0,.bool true)],hF):=by
  clear sO sO1 hE k0 rdA rd0 hv0 e2 e4 e7 e10 e13 e16 e19 e22 k4 ok4 ok7 ok10 ok13 ok16 ok19 m4 m4' m7 m7' m10 m10' m13 m13' m16 m19 lx tX hY2 k19 E7 E10 E13 ok7' ok10' ok13' xW hW b0 b2 b3 b4 b5 b6 b7 b8 b9
  generalize vH vV=Z at *
  generalize vH y4=Y4 at *
  generalize vH y7=Y7 at *
  generalize vH y10=Y10 at *
  generalize vH y13=Y13 at *
  refine⟨?_, ?_⟩
  rotate_left
  simp (disch:=omega)only[go_sem,vN,AP.f242,yK,yL,v1',v4,v7,v10,v13,c40,c41,c70,c76,l76,c107,c138,kc,hw,gW,kn,ke,w1',w13]
  rfl
 obtain⟨hF,bF⟩:=bF
 rw[rZ]at b0
 have hh:aM (aS AP.A) bB AP.f242.body (params 0 []) h.dY=some (.ret,[(0,.bool true)],hF):=by
  rw[Iz,rZ]
  cases hq:aM (aS AP.A) bB (at_ 0 AP.f242.body) (params 0 []) h.dY with
  |none=>rw[hq]at b0;cases b0
  | some r =>
    obtain⟨ex,ev,hr⟩:=r
    cases ex with
    | normal =>
      rw[hq,sY]at b0
      rw[sY,rZ,b0,sY,rZ,b2,sY,rZ,b3,sY,rZ,b4,sY,rZ,b5,sY,rZ,b6,sY,rZ,b7,sY,rZ,b8,sY,rZ,b9,sY]
      exact bF
    |exit i=>rw[hq]at b0;cases b0
    |ret=>rw[hq]at b0;cases b0
 exact uo (fn:=AP.f242) (h2:=hF) (e:=[(0,.bool true)]) rfl rfl rfl hh rfl rfl
end Ab
