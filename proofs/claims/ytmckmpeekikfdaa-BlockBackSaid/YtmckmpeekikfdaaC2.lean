/- Part C2. -/
import Derived.Test.YtmckmpeekikfdaaC1
set_option linter.unusedVariables false
namespace Ab
open Go
def Kh:Ty:=.int .i64
def NB:Ty:=.str
theorem GG {B:Nat} {avs:List AV} (h:Sh B Kh avs):∃n,avs=[.int .i64 n]∧(-9223372036854775808≤n∧n<9223372036854775808):=by
 cases h with
 |int h=>exact⟨_,rfl,sY h⟩
theorem Nx {avs:List AV} (h:Sh reachBytes .str avs):∃s:ByteArray,avs=[.str s]∧s.size<140737488355328:=by
 cases h with
 |str h=>exact⟨_,rfl,tH h⟩
theorem CN {B:Nat} {f:Ty} {fs:List Ty} {avs:List AV} (h:iB B (f::fs) avs):∃a r,avs=a++r∧Sh B f a∧iB B fs r:=by
 cases h with
 |cons h hr=>exact⟨_,_,rfl,h,hr⟩
theorem Kr {B:Nat} {avs:List AV} (h:iB B [] avs):avs=[]:=by
 cases h;rfl
theorem Pl {B:Nat} {fs:List Ty} {avs:List AV} (h:Sh B (.st fs) avs):iB B fs avs:=by
 cases h with
 |st h=>exact h
theorem PG {P:Ty×List AV→Prop} {a b:Ty} {r:List (Ty×List AV)} (h:r.map (·.1)=[a,b]) (hp:∀x∈r,P x):∃x y,r=[(a,x),(b,y)]∧P (a,x)∧P (b,y):=by
 match r,h with
 |[(a',x),(b',y)],h=>simp at h;obtain⟨rfl,rfl⟩:=h;exact⟨x,y,rfl,hp _ (by simp),hp _ (by simp)⟩
def Pp:Ty:=.st [Kh,Kh,Kh]
def Hx:Ty:=.sl Pp 3 24
theorem Ks {B:Nat} {ess:List (List AV)} (h:∀es,es∈ess→Sh B Pp es):∃l:List Tok,l.length=ess.length∧ess.flatten=vI l:=by
 induction ess with
 |nil=>exact⟨[],rfl,rfl⟩
 | cons y ess ih =>
   obtain⟨l,h1,h2⟩:=ih fun es q=>h es (by simp [q])
   obtain⟨a1,r1,rfl,s1,h3⟩:=CN (Pl (h y (by simp)))
   obtain⟨a2,r2,rfl,s2,h4⟩:=CN h3
   obtain⟨a3,r3,rfl,s3,h5⟩:=CN h4
   obtain rfl:=Kr h5
   obtain⟨a,rfl,_⟩:=GG s1
   obtain⟨b,rfl,_⟩:=GG s2
   obtain⟨c,rfl,_⟩:=GG s3
   exact⟨⟨a,b,c⟩::l,by simp [h1],by rw[List.flatten_cons,h2];rfl⟩
theorem Ku {avs:List AV} (h:Sh reachBytes Hx avs):∃(v:AV) (l:List Tok),avs=[v]∧v.sc=true∧(∀g,xQ 3 g v l.length (vI l))∧l.length<9000000000000:=by
 cases h with
 |aO=>exact⟨.aO,[],rfl,rfl,fun g=>⟨rfl,rfl,fun s q=>(by cases q)⟩,by simp⟩
 | aU ess h hz hb =>
   obtain⟨l,h1,h2⟩:=Ks h
   refine⟨_,l,rfl,rfl,fun g=> ?_, ?_⟩
   · rw[h2,←h1]
     refine⟨?_,by rw[zD],fun s q=>by cases q⟩
     simp only[aR,if_true,uF]
     rw[if_pos (by rw[zD];exact uy _),Q9,uP (by rw[zD];exact uy _)]
   · rw[h1];unfold reachBytes at hb;omega
end Ab
set_option linter.unusedSimpArgs false
set_option maxRecDepth 100000
namespace Ab
open Go
def NH (s:ByteArray):List Nat:=s.data.toList.map (·.toNat)
theorem Hw (s:ByteArray):(NH s).length=s.size:=by unfold NH;rw[Ru,Array.length_toList];rfl
theorem NI (s:ByteArray):∀b∈NH s,b<256:=by
 intro b hb
 obtain⟨x,_,rfl⟩:=QZ.1 hb
 exact x.toNat_lt
theorem Bi (s:ByteArray):bytesOf (NH s)=s:=by
 unfold NH bytesOf;rw[List.map_map];apply ByteArray.ext;simp [Function.comp_def]
theorem HF (x:Int) (k:Nat) (hk:k≤62):bits .and .i64 x ((2^k-1:Nat):Int)=x%((2^k:Nat):Int):=by
 have h2:2^k≤2^62:=Q7 (by omega) hk
 have h3:0<2^k:=Nat.pow_pos (by omega)
 show IntKind.wrap .i64 (((BitVec.ofInt 64 x&&&BitVec.ofInt 64 ((2^k-1:Nat):Int)).toNat:Nat):Int)=_
 rw[BitVec.toNat_and,xG 64 (2^k-1) (by omega),BitVec.toNat_ofInt,Nat.and_two_pow_sub_one_eq_mod,u0 (by
  have:=Nat.mod_lt (x%((2^64:Nat):Int)).toNat h3
  omega)]
 have e:(((x%((2^64:Nat):Int)).toNat:Nat):Int)=x%((2^64:Nat):Int):=Int.toNat_of_nonneg (Int.emod_nonneg _ (by decide))
 rw[Int.natCast_emod,e]
 refine Int.emod_emod_of_dvd x ?_
 refine Int.natCast_dvd_natCast.2 (Nat.pow_dvd_pow 2 (by omega))
theorem Qa {n:Nat} (h:n<256):IntKind.wrap .u8 (n:Int)=n:=wb (by omega)
theorem Po {a n:Nat} (hn:0<n):bh .rem (.int .i64 ((a:Nat):Int)) (.int .i64 (n:Int))=some (.int .i64 ((a%n:Nat):Int)):=by
 show(if(n:Int)=0 then none else some (AV.int .i64 ((a:Int).tmod n)))=_
 rw[if_neg (by omega),Int.tmod_eq_emod_of_nonneg (by omega)];rfl
theorem zZ:∀(l cs:List AV) (off:Nat),off+l.length≤cs.length→setFrom cs off l=cs.take off++(l++cs.drop (off+l.length))
 |[],cs,off,h=>by simp [setFrom]
 | v :: l, cs, off, h => by
   rw[QQ]at h
   rw[setFrom,zZ l (cs.set off v) (off+1) (by rw[Rb];omega)]
   rw[List.take_set,List.drop_set_of_lt (by omega),QQ,show off+1+l.length=off+(l.length+1)by omega]
   rw[List.take_succ_eq_append_getElem (by omega),List.set_append_right _ _ (by simp;omega)]
   simp [show min off cs.length=off by omega]
def vi (bs:List Nat):List Nat:=wE bs 0 []
theorem zU:∀(a b:List Nat) (i:Nat) (out:List Nat),wE (a++b) i out=wE b (i+a.length) (wE a i out)
 |[],b,i,out=>rfl
 | x :: a, b, i, out => by
   show wE (a++b) (i+1) (vK out i x)=_
   rw[zU a b]
   show wE b (i+1+a.length) _=wE b (i+(a.length+1)) _
   rw[show i+1+a.length=i+(a.length+1)by omega];rfl
theorem DC (bs:List Nat) (b:Nat):vi (bs++[b])=vK (vi bs) bs.length b:=by
 unfold vi;rw[zU,uF];rfl
theorem wU (bs:List Nat):(vi bs).length=(bs.length+7)/8:=by
 have:∀(l:List Nat) (i:Nat) (out:List Nat),out.length=(i+7)/8→(wE l i out).length=(i+l.length+7)/8:=by
  intro l
  induction l with
  |nil=>intro i out h;exact h
  |cons x l ih=>intro i out h;rw[wE,ih (i+1) _ (by rw[Bs h]),QQ];congr 1;omega
 have:=this bs 0 [] rfl
 rw[vi,this,uF]
structure Wr (h:H) (w:Nat) (bs:List Nat) (ov:AV):Prop where
 get:h.get w=some [ov,.int .i64 (bs.length:Nat)]
 own:vQ 1 h ov (vi bs).length (xR (vi bs))
 fl:h.floor≤w
 Ik:h.floor≤h.next
 ne:ov.id?≠some w
 GU:JN (vi bs)
structure Ga (h:H) (w:Nat) (ov:AV) (h':H) (ov':AV):Prop where
 floor:h'.floor=h.floor
 next:h.next≤h'.next
 vJ:∀i,i<h.next→i≠w→ov.id?≠some i→h'.get i=h.get i
 ids:∀j,ov'.id?=some j→ov.id?=some j∨h.next≤j
theorem Ga.refl (h:H) (w:Nat) (ov:AV):Ga h w ov h ov:=⟨rfl,uy _,fun _ _ _ _=>rfl,fun _ h=>.inl h⟩
theorem Ga.trans {h1 h2 h3:H} {w:Nat} {o1 o2 o3:AV} (a:Ga h1 w o1 h2 o2) (b:Ga h2 w o2 h3 o3):Ga h1 w o1 h3 o3:=
 ⟨by rw [b.floor, a.floor], uS a.next b.next, fun i h hw ho => by
   rw[b.vJ i (by have:=a.next;omega) hw (fun q=>by rcases a.ids i q with q|q;exact ho q;omega),a.vJ i h hw ho],
  fun j h=>by
   rcases b.ids j h with q|q
   · exact a.ids j q
   · exact .inr (uS a.next q)⟩
theorem Kv {b k:Nat} (hb:b≤1) (hk:k<8):oM .shl .i64 (b:Int) ((k:Nat):Int)=some (.int .i64 ((b* 2^k:Nat):Int)):=by
 unfold oM
 rw[if_neg (by omega)]
 simp only[IntKind.bits,Int.toNat_natCast,show min k 64=k by omega]
 have h1:2^k≤2^7:=Q7 (by omega) (by omega)
 have h2:b* 2^k≤1* 2^7:=Nat.mul_le_mul hb h1
 have:(b:Int)* 2^k=((b* 2^k:Nat):Int):=by rw[Int.natCast_mul,Int.natCast_pow];rfl
 rw[this,wi (by omega)]
theorem NV {l:List Nat} {i x:Nat} (h:l[i]?=some x):(xR l)[i]?=some (.int .u8 (x:Int)):=by simp [xR,h]
theorem Pv (l:List Nat) (i x:Nat):(xR l).set i (.int .u8 (x:Int))=xR (l.set i x):=by simp [xR,List.map_set]
theorem K9 (l:List Nat):(xR l).length=l.length:=by simp [xR]
theorem EP (P:List Nat) (x:Nat):xR (P++[x])=xR P++[.int .u8 (x:Int)]:=by simp [xR]
def A8 (v:Nat):Nat→Nat→List Nat
 |_,0=>[]
 |i,m+1=>v/2^i%2::A8 v (i+1) m
def vb (v n:Nat):List Nat:=A8 v 0 n
def xH (v:Nat):Nat→List Nat
 |0=>[]
 |m+1=>v/2^m%2::xH v m
theorem vp (v:Nat):∀m i,(A8 v i m).length=m
 |0,_=>rfl
 |m+1,i=>by simp [A8,vp v m]
theorem vO (v:Nat):∀m,(xH v m).length=m
 |0=>rfl
 |m+1=>by simp [xH,vO v m]
theorem EG {n:Nat} (h:n<1000000000):bits .and .i64 (n:Int) 1=((n%2:Nat):Int):=by
 have:=HF (n:Int) 1 (by omega)
 exact this.trans (by omega)
def vg (o:Option (Nat×Nat)):Nat:=(o.getD (0,0)).1
def v7 (o:Option (Nat×Nat)):Nat:=(o.getD (0,0)).2
def yu (f:Nat→Option (Nat×Nat)) (k:Nat):Nat→Nat
 |0=>0
 |s+1=>if vg (f (s+1))≤k then s+1 else yu f k s
def wV (k:Nat):Nat:=yu lenOf k 285
def yU (k:Nat):Nat:=v7 (lenOf (wV k))
def zQ (k:Nat):Nat:=k-vg (lenOf (wV k))
def xp (k:Nat):Nat:=yu vx k 29
def zF (k:Nat):Nat:=v7 (vx (xp k))
def Ao (k:Nat):Nat:=k-vg (vx (xp k))
theorem zP {s:Nat} (h1:257≤s) (h2:s≤285):∃a b,lenOf s=some (a,b):=by
 unfold lenOf;rw[if_neg (by omega)];split;exact⟨_,_,rfl⟩;split<;>exact⟨_,_,rfl⟩
theorem yR {s:Nat} (h2:s≤29):∃a b,vx s=some (a,b):=by
 unfold vx;rw[if_neg (by omega)];split<;>exact⟨_,_,rfl⟩
theorem Hd:∀s,257≤s→s<285→vg (lenOf (s+1))≤vg (lenOf s)+2^v7 (lenOf s):=by
 intro s h1 h2
 have:∀s<285,257≤s→vg (lenOf (s+1))≤vg (lenOf s)+2^v7 (lenOf s):=by decide+kernel
 exact this s h2 h1
theorem E6:∀s,s<29→vg (vx (s+1))≤vg (vx s)+2^v7 (vx s):=by decide+kernel
theorem xE {k : Nat} (h1 : 3 ≤ k) (h2 : k ≤ 258) : 257 ≤ wV k ∧ wV k ≤ 285 ∧ vg (lenOf (wV k)) ≤ k ∧ k < vg (lenOf (wV k)) + 2 ^ v7 (lenOf (wV k)) := by
 have key:∀n s,s=257+n→s≤285→(s=285∨k<vg (lenOf (s+1)))→257≤yu lenOf k s∧yu lenOf k s≤285∧vg (lenOf (yu lenOf k s))≤k∧k<vg (lenOf (yu lenOf k s))+2^v7 (lenOf (yu lenOf k s)):=by
  intro n
  induction n with
  | zero =>
    intro s hs h hk
    obtain rfl:s=257:=hs
    have e:yu lenOf k 257=257:=by rw[yu,if_pos (show vg (lenOf (256+1))≤k from h1)]
    have g:=Hd 257 (by omega) (by omega)
    rw[e]
    refine⟨by omega,by omega,h1, ?_⟩
    rcases hk with q|q
    · omega
    · omega
  | succ n ih =>
    intro s hs h hk
    obtain⟨s,rfl⟩:∃t,s=t+1:=⟨s-1,by omega⟩
    by_cases c:vg (lenOf (s+1))≤k
    · rw [yu, if_pos c]
      refine⟨by omega,by omega,c, ?_⟩
      rcases hk with q|q
      · obtain rfl:s=284:=by omega
        have:vg (lenOf (284+1))=258:=rfl
        have:0<2^v7 (lenOf (284+1)):=Nat.pow_pos (by omega)
        omega
      · by_cases c2:s+1=285
        · obtain rfl:s=284:=by omega
          have:vg (lenOf (284+1))=258:=rfl
          have:0<2^v7 (lenOf (284+1)):=Nat.pow_pos (by omega)
          omega
        · have:=Hd (s+1) (by omega) (by omega);omega
    · rw[yu,if_neg c]
      exact ih s (by omega) (by omega) (.inr (by omega))
 exact key 28 285 (by omega) (by omega) (.inl rfl)
theorem xB {k : Nat} (h1 : 1 ≤ k) (h2 : k ≤ 32768) : xp k ≤ 29 ∧ vg (vx (xp k)) ≤ k ∧ k < vg (vx (xp k)) + 2 ^ v7 (vx (xp k)) := by
 have l0:vg (vx 0)=1:=rfl
 have key:∀s,s≤29→(s=29∨k<vg (vx (s+1)))→yu vx k s≤29∧vg (vx (yu vx k s))≤k∧k<vg (vx (yu vx k s))+2^v7 (vx (yu vx k s)):=by
  intro s
  induction s with
  | zero =>
    intro h hk
    rw[yu]
    have g:=E6 0 (by omega)
    refine⟨by omega,by omega, ?_⟩
    rcases hk with q|q<;>omega
  | succ s ih =>
    intro h hk
    by_cases c:vg (vx (s+1))≤k
    · rw[yu,if_pos c]
      refine⟨by omega,c, ?_⟩
      by_cases c2:s+1=29
      · obtain rfl:s=28:=by omega
        have a1:vg (vx (28+1))=24577:=rfl
        have a2:2^v7 (vx (28+1))=8192:=rfl
        omega
      · have:=E6 (s+1) (by omega)
        rcases hk with q|q<;>omega
    · rw[yu,if_neg c]
      exact ih (by omega) (.inr (by omega))
 exact key 29 (by omega) (.inl rfl)
def HQ (d:Nat):Nat→List Nat→List Nat
 |0,o=>o
 |n+1,o=>HQ d n (o++[o.getD (o.length-d) 0])
theorem BI (d:Nat):∀n o,(HQ d n o).length=o.length+n
 |0,o=>rfl
 |n+1,o=>by rw[HQ,BI d n];simp;omega
def vC (o:List Nat) (t:Tok):List Nat:=if t.len=0 then o++[t.lit.toNat]else HQ t.vG.toNat t.len.toNat o
def wk:List Tok→List Nat→List Nat
 |[],o=>o
 |t::r,o=>wk r (vC o t)
def xg (ts:List Tok):Option ByteArray:=if vt 0 ts=true then some (bytesOf (wk ts []))else none
def Mj:Option ByteArray→AV
 |some t=>.bJ [.str t,.int .i64 0]
 |none=>.bJ [.str ⟨#[]⟩,.int .i64 500]
def yf (ts:List Tok):Bool:=match xg ts with
 |some t=>decide (t.size≤300)
 |none=>false
theorem BK {p q:Prop} [Decidable p] [Decidable q] {α:Type} {a b:α} (h:p↔q):(if p then a else b)=if q then a else b:=by
 by_cases c:p
 · rw[if_pos c,if_pos (h.1 c)]
 · rw[if_neg c,if_neg (fun x=>c (h.2 x))]
def wq (p:Int×Int):List AV:=[.int .i64 p.1,.int .i64 p.2]
theorem yl (p:Int×Int):(wq p).length=2:=rfl
theorem IQ {α:Type} {C:α→List AV} {n:Nat} (hC:∀x,(C x).length=n):∀(l:List α) (i:Nat) (x:α),i<l.length→setFrom (l.flatMap C) (i* n) (C x)=(l.set i x).flatMap C
 |[],i,x,h=>by simp at h
 | y :: l, 0, x, h => by
   have:=xW (C y) (C x) [] (l.flatMap C) (by rw[hC,hC])
   simpa using this
 | y :: l, i + 1, x, h => by
   have ih:=IQ hC l i x (by simpa using h)
   rw[QW,List.set_cons_succ,QW,←ih]
   have e:=AU hC l
   have:i<l.length:=by simpa using h
   have hi:i* n+n≤l.length* n:=by
    have:=uD n (show i+1≤l.length from this)
    rwa [Nat.succ_mul]at this
   have hs:(i+1)* n=n+i* n:=by rw[Nat.succ_mul];omega
   rw[zZ _ _ _ (by rw[uU,hC,hC,e,hs];omega),zZ _ _ _ (by rw[hC,e];omega),hs,hC]
   rw[List.take_append,List.drop_append,hC]
   rw[uP (by rw[hC];omega),List.drop_of_length_le (by rw[hC];omega)]
   rw[show n+i* n-n=i* n by omega,show n+i* n+n-n=i* n+n by omega]
   simp
def yd (l:List Int) (i:Nat):Int×Int:=if 1≤l.getD i 0 then(l.getD i 0,u7 l (l.getD i 0).toNat+wx (l.take i) (l.getD i 0).toNat)else(0,0)
def uX (l:List Int):List (Int×Int):=(List.range l.length).map (yd l)
def wc (l:List Int) (b i:Nat):List (Int×Int):=(List.range l.length).map fun j=>if 1≤l.getD j 0∧(l.getD j 0<b∨(l.getD j 0=b∧j<i))then yd l j else(0,0)
theorem AO (l:List Int) (b i:Nat):(wc l b i).length=l.length:=by simp [wc]
theorem HP {l:List Int} {b i:Nat} (hi:i<l.length) (hb:1≤b) (hl:l.getD i 0=(b:Int)):(wc l b i).set i ((b:Int),u7 l b+wx (l.take i) b)=wc l b (i+1):=by
 apply List.ext_getElem?
 intro j
 rw[Q5]
 by_cases e:i=j
 · subst e
   rw[if_pos rfl,if_pos (by rw[AO];exact hi)]
   simp only[wc,uJ,Rj hi,QU]
   rw[if_pos ⟨by omega,.inr ⟨hl,by omega⟩⟩,yd,if_pos (by omega),hl];rfl
 · rw[if_neg e]
   simp only[wc,uJ]
   by_cases hj:j<l.length
   · rw[Rj hj]
     simp only[QU]
     exact Rt some (BK (by omega))
   · rw[Q3 (by simp;omega)];rfl
theorem Gh {l:List Int} {b i:Nat} (hl:¬l.getD i 0=(b:Int)):wc l b (i+1)=wc l b i:=by
 unfold wc
 refine Rk fun j hj=> ?_
 by_cases e:j=i
 · subst e
   exact BK (by omega)
 · exact BK (by omega)
theorem Gi (l:List Int) (b:Nat):wc l (b+1) 0=wc l b l.length:=by
 unfold wc
 refine Rk fun j hj=> ?_
 have hj':j<l.length:=List.mem_range.1 hj
 exact BK (by omega)
theorem HO {l:List Int} (hr:∀y∈l,0≤y∧y<16):wc l 16 0=uX l:=by
 unfold wc uX
 refine Rk fun j hj=> ?_
 have hj':j<l.length:=List.mem_range.1 hj
 have hm:=hr (l.getD j 0) (by rw[QP,QR hj'];simp)
 by_cases c:1≤l.getD j 0
 · rw[if_pos ⟨c,.inl (by omega)⟩]
 · rw[if_neg (fun q=>c q.1),yd,if_neg c]
theorem Gj (l:List Int):wc l 1 0=List.replicate l.length (0,0):=by
 unfold wc
 have:(List.range l.length).map (fun j=>if 1≤l.getD j 0∧(l.getD j 0<(1:Nat)∨(l.getD j 0=(1:Nat)∧j<0))then yd l j else((0:Int),(0:Int)))=(List.range l.length).map (fun _=>((0:Int),(0:Int))):=by
  refine Rk fun j hj=> ?_
  rw[if_neg (by omega)]
 rw[this,List.map_const',List.length_range]
theorem C6 {l:List Int} {i:Nat} (hi:i<l.length) (b:Nat) (hb:1≤b):wx (l.take (i+1)) b=wx (l.take i) b+if l.getD i 0=(b:Int)then 1 else 0:=by
 have e:l.take (i+1)=l.take i++[l.getD i 0]:=by
  rw[List.take_add_one,QR hi,QP,QR hi];rfl
 rw[e,yP]
 congr 1
 by_cases c:l.getD i 0=(b:Int)
 · rw[if_pos ⟨by omega,c⟩,if_pos c]
 · rw[if_neg (fun q=>c q.2),if_neg c]
theorem zV:∀E:List (Int×Int),E.flatMap wq=ints (E.flatMap fun p=>[p.1,p.2])
 |[]=>rfl
 |p::E=>by rw[QW,QW,pd,zV E];rfl
theorem Bw:∀n,yI n [.int .i64 0,.int .i64 0]=(List.replicate n ((0:Int),(0:Int))).flatMap wq
 |0=>rfl
 | n + 1 => by
   have:=Bw n
   unfold yI at *
   rw[dx,this,List.replicate_succ,QW];rfl
def yQ (l:List Int):AV:=yL 2 l.length ((uX l).flatMap wq)
def vz (l:List Int) (least:Nat):Nat→Nat
 |0=>least
 |i+1=>if i+1≤least then least else if 0<l.getD i 0 then i+1 else vz l least i
structure WX (h0 h:H) (w:Nat) (bs:List Nat) (ov:AV):Prop where
 wr:Wr h w bs ov
 ext:Ext h0 h
 lw:h0.next≤w
 ln:h0.next≤h.next
 lo:∀j,ov.id?=some j→h0.next≤j
theorem WX.step {h0 h h':H} {w:Nat} {bs bs':List Nat} {ov ov':AV} (x:WX h0 h w bs ov) (wr:Wr h' w bs' ov') (f:Ga h w ov h' ov'):WX h0 h' w bs' ov':=
 ⟨wr,fun i c hi=>by
  have:=h0.lt _ _ hi
  have:=x.ln
  have:=x.lw
  rw[f.vJ i (by omega) (by omega) (fun q=>by have:=x.lo i q;omega),x.ext i c hi],x.lw,by have:=f.next;have:=x.ln;omega,fun j hj=>by
  rcases f.ids j hj with q|q
  · exact x.lo j q
  · have:=x.ln;omega⟩
theorem WX.turn {h0 h h':H} {w:Nat} {bs:List Nat} {ov:AV} (x:WX h0 h w bs ov) (hf:h'.floor=h.floor) (hn:h.next≤h'.next) (hk:∀i,i<h.next→h'.get i=h.get i):WX h0 h' w bs ov:=
 ⟨⟨by rw [hk w (h.lt _ _ x.wr.get), x.wr.get], x.wr.own.mono hf fun i q => hk i (x.wr.own.lt q).2, by rw [hf]; exact x.wr.fl, by rw [hf]; exact uS x.wr.Ik hn, x.wr.ne, x.wr.GU⟩,
   fun i c hi=>by have:=h0.lt _ _ hi;have:=x.ln;rw[hk i (by omega),x.ext i c hi],x.lw,uS x.ln hn,x.lo⟩
def Ac (E:List (Int×Int)) (s:Nat):Prop:=∃n v:Nat,E[s]?=some ((n:Int),(v:Int))∧1≤n∧n≤15∧v<2^n
def u4 (E:List (Int×Int)) (s:Nat):List Nat:=xH (E.getD s (0,0)).2.toNat (E.getD s (0,0)).1.toNat
theorem Ac.bits {E:List (Int×Int)} {s:Nat} (o:Ac E s):∃n v:Nat,E[s]?=some ((n:Int),(v:Int))∧1≤n∧n≤15∧v<2^n∧u4 E s=xH v n:=by
 obtain⟨n,v,h,h1,h2,h3⟩:=o
 refine⟨n,v,h,h1,h2,h3, ?_⟩
 unfold u4
 rw[QP,h];rfl
theorem Ac.lt {E:List (Int×Int)} {s:Nat} (o:Ac E s):s<E.length:=by
 obtain⟨n,v,h,_⟩:=o
 exact(uu.1 h).1
theorem xQ.KN {h:H} {v:AV} {E:List (Int×Int)} (r:xQ 2 h v E.length (E.flatMap wq)):∃ad:Int→AV,
 (∀i:Int,0≤i∧i<E.length→fB 2 v (.int .i64 i)=some (ad i))∧
 ∀g:H,Ext h g→∀(i:Nat) (p:Int×Int),E[i]?=some p→bN true 2 (ad i) g=some (.agg [.int .i64 p.1,.int .i64 p.2]):=by
 obtain⟨ad,a1,a2,_,a3⟩:=r.at_
 refine⟨fun i=>ad i 0,a1,fun g hg i t ht=> ?_⟩
 obtain⟨b1,b2⟩:=a3 g hg
 have hi:i<E.length:=(uu.1 ht).1
 have hI:(0:Int)≤(i:Int)∧(i:Int)<E.length:=⟨by omega,by omega⟩
 have ti:((i:Int)).toNat=i:=by omega
 rw[b2 i hI,ti,D9 yl ht];rfl
def vB (E D:List (Int×Int)) (t:Tok):List Nat:=
 if t.len=0 then u4 E t.lit.toNat
 else u4 E (wV t.len.toNat)++(vb (zQ t.len.toNat) (yU t.len.toNat)++(u4 D (xp t.vG.toNat)++vb (Ao t.vG.toNat) (zF t.vG.toNat)))
def vP (E D:List (Int×Int)) (ts:List Tok):List Nat:=ts.flatMap (vB E D)
def F8 (E D:List (Int×Int)) (t:Tok):Prop:=
 (t.len=0∧0≤t.lit∧Ac E t.lit.toNat)∨(3≤t.len∧t.len≤258∧1≤t.vG∧t.vG≤32768∧Ac E (wV t.len.toNat)∧Ac D (xp t.vG.toNat))
theorem Ee {k:Nat} (h1:3≤k) (h2:k≤258):yU k≤5∧zQ k<2^yU k:=by
 obtain⟨a1,a2,a3,a4⟩:=xE h1 h2
 obtain⟨a,b,hab⟩:=zP a1 a2
 have:=Cs hab
 refine⟨by unfold yU;rw[hab];show b≤5;omega, ?_⟩
 unfold zQ yU;omega
theorem D6 {k:Nat} (h1:1≤k) (h2:k≤32768):zF k≤13∧Ao k<2^zF k:=by
 obtain⟨a2,a3,a4⟩:=xB h1 h2
 obtain⟨a,b,hab⟩:=yR a2
 have:=AQ hab
 refine⟨by unfold zF;rw[hab];show b≤13;omega, ?_⟩
 unfold Ao zF;omega
theorem BD {E D:List (Int×Int)} {t:Tok} (o:F8 E D t):(vB E D t).length≤48:=by
 rcases o with ⟨h1,h2,h3⟩|⟨h1,h2,h3,h4,h5,h6⟩
 · obtain⟨n,v,_,q1,q2,q3,q4⟩:=h3.bits
   rw[vB,if_pos h1,q4,vO];omega
 · obtain⟨n,v,_,q1,q2,q3,q4⟩:=h5.bits
   obtain⟨n',v',_,q1',q2',q3',q4'⟩:=h6.bits
   have l:=Ee (k:=t.len.toNat) (by omega) (by omega)
   have d:=D6 (k:=t.vG.toNat) (by omega) (by omega)
   rw[vB,if_neg (by omega),q4,q4']
   simp only[uU,vO,vb,vp];omega
theorem zC {E D:List (Int×Int)}:∀{ts:List Tok},(∀t∈ts,F8 E D t)→(vP E D ts).length≤48* ts.length
 |[],_=>by simp [vP]
 | t :: ts, h => by
   have a:=BD (h t (by simp))
   have b:=zC (E:=E) (D:=D) (ts:=ts) fun u hu=>h u (by simp [hu])
   unfold vP at *
   simp only[QW,uU,QQ];omega
structure Ro (h:H) (f:Nat) (vs:List AV) (cs:List (List AV)):Prop where
 get:h.get f=some vs
 own:∀(i:Nat) (v:AV) (c:List AV),vs[i]?=some v→cs[i]?=some c→vQ 1 h v c.length c
 len:vs.length=cs.length
 ne:∀(i:Nat) (v:AV),vs[i]?=some v→v.id?≠some f
 JP:∀(i j:Nat) (v u:AV),i≠j→vs[i]?=some v→vs[j]?=some u→∀id,v.id?=some id→u.id?≠some id
 fl:h.floor≤f
 Ik:h.floor≤h.next
structure Lo (h h':H):Prop where
 floor:h'.floor=h.floor
 next:h.next≤h'.next
 vJ:∀i,i<h.floor→h'.get i=h.get i
theorem Lo.refl (h:H):Lo h h:=⟨rfl,uy _,fun _ _=>rfl⟩
theorem Lo.trans {a b c:H} (x:Lo a b) (y:Lo b c):Lo a c:=⟨y.floor.trans x.floor,uS x.next y.next,fun i hi=>(y.vJ i (by rw[x.floor];exact hi)).trans (x.vJ i hi)⟩
theorem Ext.lo {h0 a b:H} (x:Ext h0 a) (y:Lo a b) (hf:a.floor=h0.next):Ext h0 b:=fun i c hi=>by
 rw[y.vJ i (by rw[hf];exact h0.lt _ _ hi),x i c hi]
theorem Ro.push {h : H} {f : Nat} {vs : List AV} {cs : List (List AV)} (r : Ro h f vs cs) (k : Nat) {v : AV} {c : List AV} (hv : vs[k]? = some v) (hc : cs[k]? = some c) (x : AV) (sc : x.sc = true) {z : Nat} (hz : roomy z (c.length + 1) = true) :
 ∃v' h1,j9 (h.alloc [x]) 1 z v (.aD h.next 0 1 1)=some (v',h1)∧h1.get f=some vs∧h1.floor=h.floor∧Ro (h1.set f (vs.set k v')) f (vs.set k v') (cs.set k (c++[x]))∧Lo h (h1.set f (vs.set k v')):=by
 have o:=r.own k v c hv hc
 have hfl:=h.lt _ _ r.get
 obtain⟨v',h1,p1,p2,p3,p4,p5,p6⟩:=o.push r.Ik (z:=z) (m:=1) (by omega) (by omega) [x] rfl (by simp [AV.aB,sc]) hz
 have hk:k<vs.length:=(uu.1 hv).1
 have gf:h1.get f=some vs:=by rw[p5 f (r.ne k v hv) hfl,r.get]
 have key:∀(i:Nat) (u:AV),(vs.set k v')[i]?=some u→(i=k∧u=v')∨(i≠k∧vs[i]?=some u):=by
  intro i u hu
  by_cases e:k=i
  · subst e
    rw[Q5,if_pos rfl,if_pos hk]at hu
    exact .inl ⟨rfl,(uh hu).symm⟩
  · rw[Q5,if_neg e]at hu
    exact .inr ⟨fun q=>e q.symm,hu⟩
 have hU:∀(i:Nat) (u:AV),vs[i]?=some u→∀id,u.id?=some id→id<h.next:=by
  intro i u hu id hid
  have hi:i<cs.length:=by rw[←r.len];exact(uu.1 hu).1
  exact((r.own i u _ hu (QR hi)).lt hid).2
 refine⟨v',h1,p1,gf,p3,⟨?_, ?_, ?_, ?_, ?_, ?_, ?_⟩,⟨by simp [p3],by simp;omega, ?_⟩⟩
 · rw[vo rfl,gf];rfl
 · intro i u d hu hd
   rcases key i u hu with ⟨rfl,rfl⟩|⟨hne,hu⟩
   · rw[Q5,if_pos rfl,if_pos (by rw[←r.len];exact hk)]at hd
     obtain rfl:=uh hd
     have:(c++[x]).length=c.length+1:=by simp
     rw[this]
     exact p2.mono (by simp) fun j hj=>by rw[uY];rw[p6]at hj;have:=uh hj;omega
   · rw[Q5,if_neg (fun q=>hne q.symm)]at hd
     exact(r.own i u d hu hd).mono (by simp [p3]) fun j hj=>by
      rw[uY (fun q=>r.ne i u hu (by rw[hj,q])),p5 j (fun q=>r.JP i k u v hne hu hv j hj q) (hU i u hu j hj)]
 · simp [r.len]
 · intro i u hu
   rcases key i u hu with ⟨rfl,rfl⟩|⟨hne,hu⟩
   · rw[p6];intro q;have:=uh q;omega
   · exact r.ne i u hu
 · intro i j u w hij hu hw id hid
   rcases key i u hu with ⟨e1,e2⟩|⟨hne,hu2⟩
   · rcases key j w hw with ⟨e3,e4⟩|⟨hne2,hw2⟩
     · exact absurd (e1.trans e3.symm) hij
     · intro q;have:=hU j w hw2 id q;rw[e2,p6]at hid;have:=uh hid;omega
   · rcases key j w hw with ⟨e3,e4⟩|⟨hne2,hw2⟩
     · intro q;have:=hU i u hu2 id hid;rw[e4,p6]at q;have:=uh q;omega
     · exact r.JP i j u w hij hu2 hw2 id hid
 · simpa [p3]using r.fl
 · simp [p3];have:=r.Ik;omega
 · intro i hi
   have:=r.fl
   rw[uY (by omega),p5 i (fun q=>by have:=(o.lt q).1;omega) (by have:=r.Ik;omega)]
theorem Ro.put {h:H} {f:Nat} {vs:List AV} {cs:List (List AV)} (r:Ro h f vs cs) (k i:Nat) {v:AV} {c:List AV} (hv:vs[k]?=some v) (hc:cs[k]?=some c) (x:AV) (sc:x.sc=true) (hi:i<c.length):
 ∃id,v=.aD id 0 c.length 1∧h.get id=some c∧h.floor≤id∧id≠f∧(∀(j:Nat) (u:AV),j≠k→vs[j]?=some u→u.id?≠some id)∧Ro (h.set id (c.set i x)) f vs (cs.set k (c.set i x))∧Lo h (h.set id (c.set i x)):=by
 have o:=r.own k v c hv hc
 rcases o.2 with ⟨_,q⟩|⟨id,q1,q2,q3,q4⟩
 · omega
 have hid:v.id?=some id:=by rw[q1];rfl
 have hne:id≠f:=fun q=>r.ne k v hv (by rw[hid,q])
 have hk:k<vs.length:=(uu.1 hv).1
 refine⟨id,q1,q2,q3,hne,fun j u hj hu q=>r.JP j k u v hj hu hv id q hid,⟨?_, ?_, ?_,r.ne,r.JP,by simpa using r.fl,by simpa using r.Ik⟩,⟨by simp,by simp,fun j hj=>by rw[uY (by omega)]⟩⟩
 · rw[uY hne.symm,r.get]
 · intro j u d hu hd
   by_cases e:k=j
   · subst e
     rw[hv]at hu
     obtain rfl:=uh hu
     rw[Q5,if_pos rfl,if_pos (by rw[←r.len];exact hk)]at hd
     obtain rfl:=uh hd
     have lc:(c.set i x).length=c.length:=Rb
     rw[lc]
     exact⟨by omega,.inr ⟨id,q1,by rw[vo rfl,q2];rfl,by simpa using q3,q4⟩⟩
   · rw[Q5,if_neg e]at hd
     exact(r.own j u d hu hd).mono (by simp) fun m hm=>by rw[uY];intro q;subst q;exact r.JP j k u v (fun q=>e q.symm) hu hv m hm hid
 · simp [r.len]
def Qe (F:List Bool):List AV:=F.map .bool
abbrev Qg (W U:List Int) (F:List Bool):List (List AV):=[ints W,ints U,Qe F]
theorem vQ.cells {n:Nat} {h:H} {v:AV} {k:Nat} {cs:List AV} (o:vQ n h v k cs):v.cells=[v]:=by
 rcases o.2 with ⟨e,_⟩|⟨id,e,_⟩<;>rw[e]<;>rfl
def wy (W:List Int) (F:List Bool):Nat→Nat→Int→Int
 |0,_,a=>a
 |m+1,i,a=>wy W F m (i+1) (if F.getD i false=true∧(a<0∨W.getD i 0<W.getD a.toNat 0)then i else a)
def wS (W:List Int) (F:List Bool):Nat:=(wy W F W.length 0 (-1)).toNat
structure FS where
 W:List Int
 U:List Int
 F:List Bool
def FS.add (s:FS) (x:Int):FS:=⟨s.W++[x],s.U++[-1],s.F++[true]⟩
def FS.a (s:FS):Nat:=wS s.W s.F
def FS.F1 (s:FS):List Bool:=s.F.set s.a false
def FS.b (s:FS):Nat:=wS s.W s.F1
def FS.F2 (s:FS):List Bool:=s.F1.set s.b false
def FS.sum (s:FS):Int:=s.W.getD s.a 0+s.W.getD s.b 0
def FS.Ef (s:FS):FS:=FS.add ⟨s.W,(s.U.set s.a s.U.length).set s.b s.U.length,s.F2⟩ s.sum
structure FS.ok (s:FS):Prop where
 lu:s.U.length=s.W.length
 lf:s.F.length=s.W.length
 l1:0≤wy s.W s.F s.W.length 0 (-1)
 l2:0≤wy s.W s.F1 s.W.length 0 (-1)
 sm:0≤s.sum∧s.sum<1000000000000000
abbrev FS.C (s:FS):List (List AV):=Qg s.W s.U s.F
theorem xI (l:List Int) (i:Nat) (x:Int):(ints l).set i (.int .i64 x)=ints (l.set i x):=by simp [ints,List.map_set,I]
def FS.xK:Nat→FS→FS
 |0,s=>s
 |n+1,s=>FS.xK n s.Ef
theorem FS.He (s:FS):s.Ef.W.length=s.W.length+1:=by simp [FS.Ef,FS.add]
theorem FS.Az:∀(n:Nat) (s:FS),(FS.xK n s).W.length=s.W.length+n
 |0,s=>rfl
 |n+1,s=>by rw[FS.xK,FS.Az n,FS.He];omega
def BE (ws:List Int):FS:=⟨ws,List.replicate ws.length (-1),List.replicate ws.length true⟩
def Bf (U:List Int):Nat→Int→Nat
 |0,_=>0
 |m+1,j=>if 0≤j then Bf U m (U.getD j.toNat (-1))+1 else 0
def GO (U:List Int):Prop:=∀j:Nat,j<U.length→U.getD j (-1)= -1∨((j:Int)<U.getD j (-1)∧U.getD j (-1)<U.length)
def D7 (U:List Int) (n:Nat):List Int:=(List.range n).map fun i=>((Bf U U.length (U.getD i (-1)):Nat):Int)
theorem IH (U:List Int) (n:Nat):(D7 U n).length=n:=by simp [D7]
def ve (ws:List Int):List Int:=D7 (FS.xK (ws.length-1) (BE ws)).U ws.length
def Im (u v:AV):Prop:=∀j,u.id?=some j→v.id?≠some j
theorem Im.symm {u v:AV} (a:Im u v):Im v u:=fun j h q=>a j q h
def u3:Nat→List Int→List Int
 |_,[]=>[]
 |i,c::r=>if 0<c then(i:Int)::u3 (i+1) r else u3 (i+1) r
def u5:List Int→List Int
 |[]=>[]
 |c::r=>if 0<c then c::u5 r else u5 r
theorem vQ.yx {h:H} {v:AV} {cs:List AV} (o:vQ 1 h v cs.length cs):Rd h v cs:=⟨o.rd.1,o.rd.2.2⟩
def vE:List Int→List Int→List Int→List Int
 |s::ss,d::ds,o=>vE ss ds (o.set s.toNat d)
 |_,_,o=>o
theorem v8:∀(ss ds o:List Int),(vE ss ds o).length=o.length
 |[],_,o=>by simp [vE]
 |s::ss,[],o=>by simp [vE]
 |s::ss,d::ds,o=>by rw[vE,v8 ss ds,Rb]
def zR:List Int→Int→Int
 |[],m=>m
 |d::ds,m=>zR ds (Cw m d)
theorem Ext.Hr {hb h:H} {o:Nat} (x:Ext hb h) (hn:hb.get o=none) (c:List AV):Ext hb (h.set o c):=fun i d q=>by
 have:i≠o:=fun e=>by rw[e,hn]at q;cases q
 rw[uY this,x i d q]
def xS (w:Int):Int:=(w+1)/2
def vT (ws:List Int):List Int:=ws.map xS
theorem zj (ws:List Int):(vT ws).length=ws.length:=by simp [vT]
def Hf (ws:List Int):Prop:=ws=[]∨(1≤ws.length∧ws.length≤288∧(∀k,k<ws.length-1→(FS.xK k (BE ws)).ok)∧GO (FS.xK (ws.length-1) (BE ws)).U∧(FS.xK (ws.length-1) (BE ws)).U.length=(FS.xK (ws.length-1) (BE ws)).W.length)
theorem Hy (U:List Int):∀(m:Nat) (j:Int),Bf U m j≤m
 |0,j=>uy _
 | m + 1, j => by
   rw[Bf]
   split
   · have:=Hy U m (U.getD j.toNat (-1));omega
   · omega
theorem E4 {ws:List Int} (o:Hf ws):∀d∈ve ws,0≤d∧d<1000:=by
 intro d hd
 rcases o with rfl|⟨h1,h2,_,_,h5⟩
 · simp [ve,D7]at hd
 · unfold ve D7 at hd
   obtain⟨i,_,rfl⟩:=QZ.1 hd
   have:=Hy (FS.xK (ws.length-1) (BE ws)).U (FS.xK (ws.length-1) (BE ws)).U.length ((FS.xK (ws.length-1) (BE ws)).U.getD i (-1))
   rw[h5,FS.Az]at this
   rw[h5,FS.Az]
   have:(BE ws).W.length=ws.length:=rfl
   omega
theorem vW (ws:List Int):(ve ws).length=ws.length:=IH _ _
def xV (S:List Int):Nat→List Int→List Int→List Int
 |0,W,O=>vE S (ve W) O
 |K+1,W,O=>xV S K (vT W) (vE S (ve W) O)
theorem Iq {h:H} {v:AV} {k:Nat} {cs:List AV} (o:vQ 1 h v k cs) (hk:0<k):∃id,v=.aD id 0 k 1∧h.get id=some cs∧h.floor≤id:=by
 rcases o.2 with ⟨_,q⟩|⟨id,q1,q2,q3,_⟩
 · omega
 · exact⟨id,q1,q2,q3⟩
inductive wC (most:Int):Nat→List Int→Prop
 |last {W:List Int}:Hf W→zR (ve W) 0≤most→wC most 0 W
 |more {K:Nat} {W:List Int}:Hf W→most<zR (ve W) 0→W≠[]→wC most K (vT W)→wC most (K+1) W
def AF (S:List Int):List Int:=if S.length=1 then(if 0<S.getD 0 0 then [0,S.getD 0 0]else S++[1])else S
def GA (S W:List Int):List Int:=if S.length=1 then(if 0<S.getD 0 0 then [1,W.getD 0 0]else W++[1])else W
theorem Km {S W:List Int} (h:W.length=S.length):(GA S W).length=(AF S).length:=by
 unfold GA AF
 split
 · split
   · rfl
   · simp [h]
 · exact h
theorem vA:∀(i:Nat) (C:List Int),(u3 i C).length=(u5 C).length
 |i,[]=>rfl
 | i, c :: r => by
   rw[u3,u5]
   split
   · simp [vA (i+1) r]
   · exact vA (i+1) r
theorem v9:∀(i:Nat) (C:List Int),(u3 i C).length≤C.length
 |i,[]=>uy _
 | i, c :: r => by
   have:=v9 (i+1) r
   rw[u3]
   split<;>simp<;>omega
theorem wF:∀(i:Nat) (C:List Int),∀s∈u3 i C,(i:Int)≤s∧s<i+C.length
 |i,[],s,h=>by simp [u3]at h
 | i, c :: r, s, h => by
   rw[u3]at h
   split at h
   · rcases uR.1 h with q|q
     · subst q;simp;omega
     · have:=wF (i+1) r s q;simp only[QQ];omega
   · have:=wF (i+1) r s h;simp only[QQ];omega
theorem xF:∀(C:List Int),∀y∈u5 C,y∈C∧0<y
 |[],y,h=>by simp [u5]at h
 | c :: r, y, h => by
   rw[u5]at h
   split at h
   · rcases uR.1 h with q|q
     · subst q;exact⟨by simp,by assumption⟩
     · have:=xF r y q;exact⟨by simp [this.1],this.2⟩
   · have:=xF r y h;exact⟨by simp [this.1],this.2⟩
theorem Je {S : List Int} {n : Nat} (hn : 2 ≤ n) (h : ∀ s ∈ S, 0 ≤ s ∧ s < n) : ∀ s ∈ AF S, 0 ≤ s ∧ s < n := by
 intro s hs
 unfold AF at hs
 split at hs
 · split at hs
   · rename_i h1 h2
     rcases uR.1 hs with q|q
     · subst q;omega
     · simp at q
       subst q
       match S,h1 with
       |[t],_=>exact h t (by simp)
   · rcases Re.1 hs with q|q
     · exact h s q
     · simp at q;subst q;omega
 · exact h s hs
theorem FJ {S:List Int} {n:Nat} (hn:2≤n) (h:S.length≤n):(AF S).length≤n:=by
 unfold AF
 split
 · split
   · simpa using hn
   · simp;omega
 · exact h
theorem yH (n:Nat):yI n [.int .i64 0]=ints (List.replicate n 0):=by
 unfold yI;rw[Ez];simp [ints,I]
def vY (C:List Int):List Int:=AF (u3 0 C)
def wo (C:List Int):List Int:=GA (u3 0 C) (u5 C)
theorem Gs (C:List Int):(wo C).length=(vY C).length:=Km (vA 0 C).symm
def vN (C:List Int) (K:Nat):List Int:=xV (vY C) K (wo C) (List.replicate C.length 0)
theorem Cq (W : List Int) (F : List Bool) : ∀ (m i : Nat) (a : Int), (a = -1 ∧ (∀ j, j < i → F.getD j false = false)) ∨ (∃ k : Nat, a = k ∧ k < i ∧ F.getD k false = true ∧ ∀ j, j < i → F.getD j false = true → W.getD k 0 ≤ W.getD j 0) →
 (wy W F m i a= -1∧(∀j,j<i+m→F.getD j false=false))∨(∃k:Nat,wy W F m i a=k∧k<i+m∧F.getD k false=true∧∀j,j<i+m→F.getD j false=true→W.getD k 0≤W.getD j 0)
 |0,i,a,h=>by simpa [wy]using h
 | m + 1, i, a, h => by
   rw[wy]
   have e:i+(m+1)=i+1+m:=by omega
   rw[e]
   refine Cq W F m (i+1) _ ?_
   by_cases c:F.getD i false=true∧(a<0∨W.getD i 0<W.getD a.toNat 0)
   · rw [if_pos c]
     refine .inr ⟨i,rfl,by omega,c.1,fun j hj hf=> ?_⟩
     by_cases q:j=i
     · subst q;exact Rr _
     · rcases h with ⟨_,h2⟩|⟨k,rfl,h1,h2,h3⟩
       · rw[h2 j (by omega)]at hf;cases hf
       · have:=h3 j (by omega) hf
         have tk:((k:Nat):Int).toNat=k:=by omega
         rw[tk]at c
         have:=c.2
         omega
   · rw [if_neg c]
     rcases h with ⟨rfl,h2⟩|⟨k,rfl,h1,h2,h3⟩
     · refine .inl ⟨rfl,fun j hj=> ?_⟩
       by_cases q:j=i
       · subst q
         cases e:F.getD j false with
         |false=>rfl
         |true=>exact absurd ⟨e,.inl (by omega)⟩ c
       · exact h2 j (by omega)
     · refine .inr ⟨k,rfl,by omega,h2,fun j hj hf=> ?_⟩
       by_cases q:j=i
       · subst q
         have tk:((k:Nat):Int).toNat=k:=by omega
         rw[tk]at c
         have:¬(W.getD j 0<W.getD k 0):=fun x=>c ⟨hf,.inr x⟩
         omega
       · exact h3 j (by omega) hf
theorem zO {W:List Int} {F:List Bool} (hl:F.length=W.length) {i:Nat} (hi:F.getD i false=true):0≤wy W F W.length 0 (-1)∧wS W F<W.length∧F.getD (wS W F) false=true∧∀j,F.getD j false=true→W.getD (wS W F) 0≤W.getD j 0:=by
 have hiL:∀j,F.getD j false=true→j<F.length:=by
  intro j hj
  rw[QP]at hj
  cases e:F[j]? with
  |none=>rw[e]at hj;cases hj
  |some b=>exact(uu.1 e).1
 rcases Cq W F W.length 0 (-1) (.inl ⟨rfl,fun j hj=>by omega⟩)with ⟨_,h2⟩|⟨k,h1,h2,h3,h4⟩
 · have:=h2 i (by have:=hiL i hi;omega)
   rw[hi]at this;cases this
 · have ek:wS W F=k:=by unfold wS;rw[h1];omega
   rw[ek]
   exact⟨by omega,by omega,h3,fun j hj=>h4 j (by have:=hiL j hj;omega) hj⟩
def Kq (U:List Int):Nat→Nat→Nat→Prop
 |0,i,r=>i=r
 |d+1,i,r=>∃j:Nat,U[i]?=some (j:Int)∧Kq U d j r
theorem CG {U:List Int}:∀{d i r:Nat} {j:Nat},Kq U d i r→U[r]?=some (j:Int)→Kq U (d+1) i j
 | 0, i, r, j, h, hj => by
   have:i=r:=h
   subst this
   exact⟨j,hj,rfl⟩
 |d+1,i,r,j,⟨k,h1,h2⟩,hj=>⟨k,h1,CG h2 hj⟩
theorem Ev {U:List Int} (up:GO U):∀{d i r:Nat},Kq U d i r→U.getD r (-1)= -1→∀m,d≤m→Bf U m (U.getD i (-1))=d
 | 0, i, r, h, hr, m, hm => by
   have:i=r:=h
   subst this
   rw[hr]
   cases m with
   |zero=>rfl
   |succ m=>rw[Bf,if_neg (by omega)]
 | d + 1, i, r, ⟨j, h1, h2⟩, hr, m, hm => by
   obtain⟨m,rfl⟩:∃k,m=k+1:=⟨m-1,by omega⟩
   have e:U.getD i (-1)=(j:Int):=by rw[QP,h1];rfl
   rw[e,Bf,if_pos (by omega)]
   have tj:((j:Nat):Int).toNat=j:=by omega
   rw[tj,Ev up h2 hr m (by omega)]
theorem Eu {U:List Int} (up:GO U):∀{d i r:Nat},Kq U d i r→i+d≤r
 | 0, i, r, h => by
   have:i=r:=h
   omega
 | d + 1, i, r, ⟨j, h1, h2⟩ => by
   have:=Eu up h2
   have hi:=(uu.1 h1).1
   have e:U.getD i (-1)=(j:Int):=by rw[QP,h1];rfl
   have:=up i hi
   rw[e]at this
   omega
def xJ (U:List Int) (a b:Nat):List Int:=(U.set a U.length).set b U.length++[-1]
theorem Dr (U:List Int) (a b:Nat):(xJ U a b).length=U.length+1:=by simp [xJ]
theorem A4 {U:List Int} {a b i:Nat} (hi:i<U.length) (ha:a≠i) (hb:b≠i):(xJ U a b)[i]?=U[i]?:=by
 unfold xJ
 rw[Q0 (by simpa using hi),Q5,if_neg hb,Q5,if_neg ha]
theorem G9 {U:List Int} {a b:Nat} (ha:a<U.length):(xJ U a b)[a]?=some (U.length:Int):=by
 unfold xJ
 rw[Q0 (by simpa using ha),Q5]
 split
 · rename_i e;subst e;simp [ha]
 · rw[Q5,if_pos rfl,if_pos ha]
theorem Ha {U:List Int} {a b:Nat} (hb:b<U.length):(xJ U a b)[b]?=some (U.length:Int):=by
 unfold xJ
 rw[Q0 (by simpa using hb),Q5,if_pos rfl,if_pos (by simpa using hb)]
theorem Hb {U:List Int} {a b:Nat}:(xJ U a b)[U.length]?=some (-1):=by
 unfold xJ
 rw[Q1 (by simp)];simp
theorem AG {U:List Int} {a b:Nat} (ha:U[a]?=some (-1)) (hb:U[b]?=some (-1)):∀{d i r:Nat},Kq U d i r→Kq (xJ U a b) d i r
 |0,i,r,h=>h
 | d + 1, i, r, ⟨j, h1, h2⟩ => by
   refine⟨j, ?_,AG ha hb h2⟩
   rw[A4 (uu.1 h1).1 (fun e=>by rw[e,h1]at ha;have:=uh ha;omega) (fun e=>by rw[e,h1]at hb;have:=uh hb;omega),h1]
theorem Ih {U : List Int} {a b : Nat} (ha : a < U.length) (hb : b < U.length) (up : GO U) : GO (xJ U a b) := by
 intro j hj
 rw[Dr]at hj ⊢
 by_cases e:j=U.length
 · subst e
   left
   rw[QP,Hb];rfl
 · by_cases ea:a=j
   · subst ea
     right
     rw[QP,G9 ha]
     simp;omega
   · by_cases eb:b=j
     · subst eb
       right
       rw[QP,Ha hb]
       simp;omega
     · have:=up j (by omega)
       rw[QP,A4 (by omega) ea eb,←QP]
       omega
theorem FS.Pe (s:FS):s.Ef.U=xJ s.U s.a s.b:=rfl
abbrev Tr:=Nat×List (Nat×Nat)
def kr (D:Nat) (l:List (Nat×Nat)):Nat:=(l.map fun p=>2^(D-p.2)).sum
structure xY (bal:Bool) (n:Nat) (tot:Int) (s:FS) (T:List Tr):Prop where
 lu:s.U.length=s.W.length
 lf:s.F.length=s.W.length
 root:∀t∈T,s.F.getD t.1 false=true∧s.U[t.1]?=some (-1)
 free:∀i,s.F.getD i false=true→∃t∈T,t.1=i
 nd:(T.map (·.1)).Nodup
 pt:∀t∈T,∀p∈t.2,Kq s.U p.2 p.1 t.1
 leaves:(T.flatMap fun t=>t.2.map (·.1)).Perm (List.range n)
 Cp:∀t∈T,∀D,(∀p∈t.2,p.2≤D)→kr D t.2=2^D
 ne:∀t∈T,t.2≠[]
 GP:∀t∈T,1≤s.W.getD t.1 0
 up:GO s.U
 sum:(T.map fun t=>s.W.getD t.1 0).sum=tot
 JV:bal=true→∀t∈T,∀u∈T,s.W.getD t.1 0≤2* s.W.getD u.1 0
 HJ:bal=true→∀t∈T,∀p∈t.2,(3:Int)^p.2≤s.W.getD t.1 0* 2^p.2
theorem H8 {l l':List Int} (p:l.Perm l'):l.sum=l'.sum:=by
 induction p with
 |nil=>rfl
 |cons x _ ih=>simp only[Rg,ih]
 |swap x y l=>simp only[Rg];omega
 |trans _ _ h1 h2=>exact h1.trans h2
theorem DF {l l':List Nat} (p:l.Perm l'):l.sum=l'.sum:=by
 induction p with
 |nil=>rfl
 |cons x _ ih=>simp only[Rg,ih]
 |swap x y l=>simp only[Rg];omega
 |trans _ _ h1 h2=>exact h1.trans h2
theorem xY.perm {bal:Bool} {n:Nat} {tot:Int} {s:FS} {T T':List Tr} (v:xY bal n tot s T) (p:T.Perm T'):xY bal n tot s T' where
 lu:=v.lu
 lf:=v.lf
 root t h:=v.root t (p.mem_iff.2 h)
 free i h:=by
  obtain⟨t,h1,h2⟩:=v.free i h
  exact⟨t,p.mem_iff.1 h1,h2⟩
 nd:=(p.map _).nodup_iff.1 v.nd
 pt t h:=v.pt t (p.mem_iff.2 h)
 leaves:=((p.flatMap_right _).symm).trans v.leaves
 Cp t h:=v.Cp t (p.mem_iff.2 h)
 ne t h:=v.ne t (p.mem_iff.2 h)
 GP t h:=v.GP t (p.mem_iff.2 h)
 up:=v.up
 sum:=by rw[←v.sum];exact(H8 (p.map _)).symm
 JV hb t h u h2:=v.JV hb t (p.mem_iff.2 h) u (p.mem_iff.2 h2)
 HJ hb t h:=v.HJ hb t (p.mem_iff.2 h)
def wX (l:List (Nat×Nat)):List (Nat×Nat):=l.map fun p=>(p.1,p.2+1)
theorem HX {D:Nat} {l:List (Nat×Nat)}:kr (D+1) (wX l)=kr D l:=by
 unfold kr wX
 rw[List.map_map]
 congr 1
 refine Rk fun p _=> ?_
 show 2^(D+1-(p.2+1))=_
 rw[Nat.add_sub_add_right]
theorem Nk (D:Nat) (a b:List (Nat×Nat)):kr D (a++b)=kr D a+kr D b:=by simp [kr]
theorem getD_set_ne {α:Type} {l:List α} {i j:Nat} {x d:α} (h:i≠j):(l.set i x).getD j d=l.getD j d:=by
 rw[QP,Q5,if_neg h,←QP]
theorem yD {l:List Bool} {i:Nat}:(l.set i false).getD i false=false:=by
 rw[QP,Q5,if_pos rfl]
 split<;>rfl
theorem xY.two {bal:Bool} {n:Nat} {tot:Int} {s:FS} {T:List Tr} (v:xY bal n tot s T) (h2:2≤T.length):
 ∃ta tb T2,T.Perm (ta::tb::T2)∧ta.1=s.a∧tb.1=s.b∧0≤wy s.W s.F s.W.length 0 (-1)∧0≤wy s.W s.F1 s.W.length 0 (-1)∧s.W.getD s.a 0≤s.W.getD s.b 0∧(∀t∈T2,s.W.getD s.b 0≤s.W.getD t.1 0):=by
 obtain⟨t0,t1,T0,rfl⟩:∃t0 t1 T0,T=t0::t1::T0:=by
  match T,h2 with
  |t0::t1::T0,_=>exact⟨t0,t1,T0,rfl⟩
 obtain⟨l1,la,fa,ma⟩:=zO v.lf (v.root t0 (by simp)).1
 obtain⟨ta,hta,ea⟩:=v.free _ fa
 have p1:=List.perm_cons_erase hta
 have v1:=v.perm p1
 obtain⟨T1,eT1⟩:∃T1,T1=(t0::t1::T0).erase ta:=⟨_,rfl⟩
 rw[←eT1]at p1 v1
 have lT1:T1≠[]:=by
  intro e
  have:=p1.length_eq
  rw[e]at this
  simp at this
 obtain⟨tx,hx⟩:=List.exists_mem_of_ne_nil _ lT1
 have nd1:∀t∈T1,t.1≠ta.1:=by
  intro t ht e
  have:=v1.nd
  rw[QY,Rv]at this
  exact this.1 (QZ.2 ⟨t,ht,e⟩)
 have f1:∀t∈T1,s.F1.getD t.1 false=true:=by
  intro t ht
  have:=(v1.root t (by simp [ht])).1
  show(s.F.set s.a false).getD t.1 false=true
  rw[getD_set_ne (by have:=nd1 t ht;intro e;exact this (by rw[ea,←e];rfl)),this]
 obtain⟨l2,lb,fb,mb⟩:=zO (W:=s.W) (F:=s.F1) (by show(s.F.set s.a false).length=_;rw[Rb];exact v.lf) (f1 tx hx)
 have hnb:s.a≠s.b:=by
  intro e
  have fb':s.F1.getD s.b false=true:=fb
  rw[←e]at fb'
  have:(s.F.set s.a false).getD s.a false=true:=fb'
  rw[yD]at this;cases this
 have fb2:s.F.getD s.b false=true:=by
  have fb':(s.F.set s.a false).getD s.b false=true:=fb
  rwa [getD_set_ne hnb]at fb'
 obtain⟨tb,htb,eb⟩:=v1.free _ fb2
 have htb1:tb∈T1:=by
  rcases uR.1 htb with q|q
  · subst q;exact absurd (ea.symm.trans eb) hnb
  · exact q
 have p2:=List.perm_cons_erase htb1
 refine⟨ta,tb,T1.erase tb,p1.trans (p2.cons ta),ea,eb,l1,l2,ma _ fb2,fun t ht=>mb _ (f1 t (List.mem_of_mem_erase ht))⟩
theorem xY.JD {bal : Bool} {n : Nat} {tot : Int} {s : FS} {T T2 : List Tr} {ta tb : Tr} (v : xY bal n tot s T) (p : T.Perm (ta :: tb :: T2)) (ea : ta.1 = s.a) (eb : tb.1 = s.b) (l1 : 0 ≤ wy s.W s.F s.W.length 0 (-1)) (l2 : 0 ≤ wy s.W s.F1 s.W.length 0 (-1)) (wab : s.W.getD s.a 0 ≤ s.W.getD s.b 0) (wbt : ∀ t ∈ T2, s.W.getD s.b 0 ≤ s.W.getD t.1 0) (ht : tot < 1000000000000000) : s.ok ∧ xY bal n tot s.Ef ((s.U.length, wX (ta.2 ++ tb.2)) :: T2) := by
 have lT:=p.length_eq
 have v1:=v.perm p
 have nd:=v1.nd
 rw[QY,QY,Rv,Rv]at nd
 obtain⟨nd1,nd2,nd3⟩:=nd
 have ra:=v1.root ta (by simp)
 have rb:=v1.root tb (by simp)
 rw[ea]at ra
 rw[eb]at rb
 have hla:s.a<s.U.length:=(uu.1 ra.2).1
 have hlb:s.b<s.U.length:=(uu.1 rb.2).1
 have wa:=v1.GP ta (by simp)
 have wb1:=v1.GP tb (by simp)
 rw[ea]at wa
 rw[eb]at wb1
 have sm:=v1.sum
 rw[QY,QY,Rg,Rg,ea,eb]at sm
 have nn:0≤(T2.map fun t=>s.W.getD t.1 0).sum:=by
  have:∀l:List Tr,(∀t∈l,1≤s.W.getD t.1 0)→0≤(l.map fun t=>s.W.getD t.1 0).sum:=by
   intro l
   induction l with
   |nil=>intro _;simp
   |cons x l ih=>intro h;have:=ih fun t ht=>h t (by simp [ht]);have:=h x (by simp);simp only[QY,Rg];omega
  exact this T2 fun t ht=>v1.GP t (by simp [ht])
 have es:s.sum=s.W.getD s.a 0+s.W.getD s.b 0:=rfl
 refine⟨⟨v.lu,v.lf,l1,l2,by omega⟩, ?_⟩
 have nT2:∀t∈T2,t.1≠s.a∧t.1≠s.b∧t.1<s.U.length:=fun t ht=>⟨fun e=>nd1 (by simp only[uR,QZ];exact .inr ⟨t,ht,by rw[e,ea]⟩),fun e=>nd2 (QZ.2 ⟨t,ht,by rw[e,eb]⟩),(uu.1 (v1.root t (by simp [ht])).2).1⟩
 have mW:∀i,i<s.W.length→s.Ef.W.getD i 0=s.W.getD i 0:=fun i hi=>by
  show(s.W++[s.sum]).getD i 0=_
  rw[QP,Q0 hi,←QP]
 have mWn:s.Ef.W.getD s.U.length 0=s.sum:=by
  show(s.W++[s.sum]).getD s.U.length 0=_
  rw[v.lu,QP,Q1 (uy _)];simp
 have lF2:s.F2.length=s.W.length:=by show((s.F.set s.a false).set s.b false).length=_;rw[Rb,Rb,v.lf]
 have mF:∀i,i<s.W.length→s.Ef.F.getD i false=s.F2.getD i false:=fun i hi=>by
  show(s.F2++[true]).getD i false=_
  rw[QP,Q0 (by omega),←QP]
 have mFn:s.Ef.F.getD s.U.length false=true:=by
  show(s.F2++[true]).getD s.U.length false=_
  rw[v.lu,QP,Q1 (by omega),lF2];simp
 have F2o:∀i,i≠s.a→i≠s.b→s.F2.getD i false=s.F.getD i false:=fun i h1 h2=>by
  show((s.F.set s.a false).set s.b false).getD i false=_
  rw[getD_set_ne h2.symm,getD_set_ne h1.symm]
 have F2a:s.a≠s.b→s.F2.getD s.a false=false:=fun h=>by
  show((s.F.set s.a false).set s.b false).getD s.a false=_
  rw[getD_set_ne h.symm,yD]
 have F2b:s.F2.getD s.b false=false:=yD
 have hab:s.a≠s.b:=fun e=>nd1 (by simp only[uR];exact .inl (by rw[ea,eb,e]))
 have jl:∀p∈ta.2++tb.2,Kq (xJ s.U s.a s.b) (p.2+1) p.1 s.U.length:=fun q hq=>by
  rcases Re.1 hq with h|h
  · have:=v1.pt ta (by simp) q h
    rw[ea]at this
    exact CG (AG ra.2 rb.2 this) (G9 hla)
  · have:=v1.pt tb (by simp) q h
    rw[eb]at this
    exact CG (AG ra.2 rb.2 this) (Ha hlb)
 have lu:=v.lu
 have lf:=v.lf
 have getT2:∀t∈T2,s.Ef.W.getD t.1 0=s.W.getD t.1 0:=fun t ht=>mW _ (by have:=(nT2 t ht).2.2;omega)
 have W2:∀t∈(s.U.length,wX (ta.2++tb.2))::T2,(t.1=s.U.length∧t.2=wX (ta.2++tb.2)∧s.Ef.W.getD t.1 0=s.sum)∨(t∈T2∧s.Ef.W.getD t.1 0=s.W.getD t.1 0):=fun t ht=>by
  rcases uR.1 ht with q|q
  · subst q;exact .inl ⟨rfl,rfl,mWn⟩
  · exact .inr ⟨q,getT2 t q⟩
 constructor
 · show(xJ s.U s.a s.b).length=(s.W++[s.sum]).length
   rw[Dr];simp [lu]
 · show(s.F2++[true]).length=(s.W++[s.sum]).length
   simp [lF2]
 · intro t ht
   rcases uR.1 ht with q|q
   · subst q
     exact⟨mFn,Hb⟩
   · have n:=nT2 t q
     have r:=v1.root t (by simp [q])
     refine⟨by rw[mF _ (by omega),F2o _ n.1 n.2.1];exact r.1, ?_⟩
     rw[FS.Pe,A4 n.2.2 n.1.symm n.2.1.symm];exact r.2
 · intro i hi
   by_cases e:i=s.U.length
   · exact⟨_,List.mem_cons_self ..,e.symm⟩
   · have hiL:i<s.W.length:=by
      apply Ra
      intro c
      have:s.Ef.F.length=s.W.length+1:=by show(s.F2++[true]).length=_;simp [lF2]
      rw[QP,Q3 (by omega)]at hi
      cases hi
     rw[mF i hiL]at hi
     have h1:i≠s.a:=fun q=>by rw[q,F2a hab]at hi;cases hi
     have h2:i≠s.b:=fun q=>by rw[q,F2b]at hi;cases hi
     rw[F2o i h1 h2]at hi
     obtain⟨t,ht,et⟩:=v1.free i hi
     rcases uR.1 ht with q|q
     · subst q;exact absurd (et.symm.trans ea) h1
     · rcases uR.1 q with q|q
       · subst q;exact absurd (et.symm.trans eb) h2
       · exact⟨t,Rn _ q,et⟩
 · rw[QY,Rv]
   refine⟨fun hm=> ?_,nd3⟩
   obtain⟨t,ht,e⟩:=QZ.1 hm
   have:=(nT2 t ht).2.2
   rw[e]at this
   exact absurd this (by simp)
 · intro t ht
   rcases uR.1 ht with q|q
   · subst q
     intro q hq
     obtain⟨q',hq',rfl⟩:=QZ.1 hq
     exact jl q' hq'
   · intro x hx
     exact AG ra.2 rb.2 (v1.pt t (by simp [q]) x hx)
 · have lv:=v1.leaves
   refine List.Perm.trans ?_ lv
   rw[QW,QW,QW,←Q2]
   have:(wX (ta.2++tb.2)).map (·.1)=ta.2.map (·.1)++tb.2.map (·.1):=by
    unfold wX;rw[List.map_map,List.map_append];rfl
   rw[this]
 · intro t ht
   rcases uR.1 ht with q|q
   · subst q
     intro D hD
     have hne:=v1.ne ta (by simp)
     obtain⟨x,hx⟩:=List.exists_mem_of_ne_nil _ hne
     have h1:=hD (x.1,x.2+1) (QZ.2 ⟨x,List.mem_append_left _ hx,rfl⟩)
     obtain⟨D,rfl⟩:∃E,D=E+1:=⟨D-1,by simp at h1;omega⟩
     rw[HX,Nk]
     rw[v1.Cp ta (by simp) D fun y hy=>by have:=hD (y.1,y.2+1) (QZ.2 ⟨y,List.mem_append_left _ hy,rfl⟩);simp at this;omega]
     rw[v1.Cp tb (by simp) D fun y hy=>by have:=hD (y.1,y.2+1) (QZ.2 ⟨y,List.mem_append_right _ hy,rfl⟩);simp at this;omega]
     rw[Nat.pow_succ];omega
   · exact v1.Cp t (by simp [q])
 · intro t ht
   rcases uR.1 ht with q|q
   · subst q
     have hne:=v1.ne ta (by simp)
     intro e
     have:wX (ta.2++tb.2)=[]:=e
     unfold wX at this
     rw[List.map_eq_nil_iff,List.append_eq_nil_iff]at this
     exact hne this.1
   · exact v1.ne t (by simp [q])
 · intro t ht
   rcases W2 t ht with ⟨_,_,e⟩|⟨q,e⟩
   · rw[e];omega
   · rw[e];exact v1.GP t (by simp [q])
 · exact Ih hla hlb v.up
 · rw[QY,Rg,mWn,Rk getT2];omega
 · intro hb t ht u hu
   have b1:=v1.JV hb
   have ba:=b1 tb (by simp) ta (by simp)
   rw[ea,eb]at ba
   rcases W2 t ht with ⟨_,_,e⟩|⟨q,e⟩
   · rcases W2 u hu with ⟨_,_,e'⟩|⟨q',e'⟩
     · rw[e,e'];omega
     · rw[e,e'];have:=wbt u q';omega
   · rcases W2 u hu with ⟨_,_,e'⟩|⟨q',e'⟩
     · rw[e,e'];have:=b1 t (by simp [q]) ta (by simp);rw[ea]at this;omega
     · rw[e,e'];exact b1 t (by simp [q]) u (by simp [q'])
 · intro hb t ht x hx
   have b1:=v1.JV hb
   have ba:=b1 tb (by simp) ta (by simp)
   have bb:=b1 ta (by simp) tb (by simp)
   rw[ea,eb]at ba bb
   rcases W2 t ht with ⟨_,e2,e⟩|⟨q,e⟩
   · rw[e]
     rw[e2]at hx
     obtain⟨y,hy,rfl⟩:=QZ.1 hx
     have p2:(0:Int)<2^y.2:=Int.pow_pos (by omega)
     show(3:Int)^(y.2+1)≤s.sum* 2^(y.2+1)
     rw[Int.pow_succ,Int.pow_succ]
     have key:∀w:Int,(3:Int)^y.2≤w* 2^y.2→3* w≤2* s.sum→(3:Int)^y.2* 3≤s.sum* (2^y.2* 2):=fun w h1 h2=>by
      have a1:(3:Int)^y.2* 3≤(w* 2^y.2)* 3:=Int.mul_le_mul_of_nonneg_right h1 (by omega)
      have a2:(3* w)* 2^y.2≤(2* s.sum)* 2^y.2:=Int.mul_le_mul_of_nonneg_right h2 (by omega)
      have a3:(w* 2^y.2)* 3=(3* w)* 2^y.2:=by rw[Int.mul_comm 3 w,Int.mul_assoc,Int.mul_assoc,Int.mul_comm _ 3]
      have a4:s.sum* (2^y.2* 2)=(2* s.sum)* 2^y.2:=by rw[Int.mul_comm 2 s.sum,Int.mul_assoc,Int.mul_comm 2 (2^y.2)]
      omega
     rcases Re.1 hy with h|h
     · have:=v1.HJ hb ta (by simp) y h
       rw[ea]at this
       exact key _ this (by omega)
     · have:=v1.HJ hb tb (by simp) y h
       rw[eb]at this
       exact key _ this (by omega)
   · rw[e];exact v1.HJ hb t (by simp [q]) x hx
theorem xY.step {bal:Bool} {n:Nat} {tot:Int} {s:FS} {T:List Tr} (v:xY bal n tot s T) (h2:2≤T.length) (ht:tot<1000000000000000):s.ok∧∃T',T'.length+1=T.length∧xY bal n tot s.Ef T':=by
 obtain⟨ta,tb,T2,p,ea,eb,l1,l2,wab,wbt⟩:=v.two h2
 have lT:=p.length_eq
 obtain⟨a,b⟩:=v.JD p ea eb l1 l2 wab wbt ht
 exact⟨a,_,by rw[lT];simp,b⟩
def T0 (n:Nat):List Tr:=(List.range n).map fun i=>(i,[(i,0)])
theorem CQ:∀(ws:List Int),((List.range ws.length).map fun i=>ws.getD i 0).sum=ws.sum:=by
 intro ws
 have:(List.range ws.length).map (fun i=>ws.getD i 0)=ws:=by
  apply List.ext_getElem?
  intro i
  rw[uJ]
  by_cases h:i<ws.length
  · rw[Rj h,QR h];simp [QP,h]
  · rw[Q3 (by simp;omega),Q3 (by omega)];rfl
 rw[this]
theorem zr {α:Type} {n i:Nat} {x d:α} (h:i<n):(List.replicate n x).getD i d=x:=by
 rw[QP,Rf,if_pos h];rfl
theorem xY.init (ws : List Int) (bal : Bool) (pos : ∀ y ∈ ws, 1 ≤ y) (hb : bal = true → ∀ y ∈ ws, y = 1) : xY bal ws.length ws.sum (BE ws) (T0 ws.length) := by
 have mem:∀t∈T0 ws.length,∃i,i<ws.length∧t=(i,[(i,0)]):=fun t ht=>by
  obtain⟨i,hi,rfl⟩:=QZ.1 ht
  exact⟨i,List.mem_range.1 hi,rfl⟩
 have gw:∀i,i<ws.length→ws.getD i 0∈ws:=fun i hi=>by
  rw[QP,QR hi];exact Q6 hi
 constructor
 · simp [BE]
 · simp [BE]
 · intro t ht
   obtain⟨i,hi,rfl⟩:=mem t ht
   exact⟨zr hi,by show(List.replicate ws.length (-1:Int))[i]?=_;rw[Rf,if_pos hi]⟩
 · intro i hi
   have:i<ws.length:=by
    apply Ra
    intro c
    have e:(BE ws).F.getD i false=false:=by
     show(List.replicate ws.length true).getD i false=false
     rw[QP,Q3 (by simp;omega)];rfl
    rw[e]at hi;cases hi
   exact⟨(i,[(i,0)]),QZ.2 ⟨i,List.mem_range.2 this,rfl⟩,rfl⟩
 · unfold T0
   rw[List.map_map]
   have:((fun t:Tr=>t.1)∘fun i=>((i,[(i,0)]):Tr))=id:=rfl
   rw[this,List.map_id];exact List.nodup_range
 · intro t ht q hq
   obtain⟨i,hi,rfl⟩:=mem t ht
   simp at hq
   subst hq
   exact rfl
 · have:(T0 ws.length).flatMap (fun t=>t.2.map (·.1))=List.range ws.length:=by
    unfold T0
    rw[List.flatMap_map]
    have:∀l:List Nat,(l.flatMap fun i=>([(i,0)]:List (Nat×Nat)).map (·.1))=l:=by
     intro l
     induction l with
     |nil=>rfl
     |cons x l ih=>rw[QW,ih];rfl
    exact this _
   rw[this]
 · intro t ht D _
   obtain⟨i,hi,rfl⟩:=mem t ht
   simp [kr]
 · intro t ht
   obtain⟨i,hi,rfl⟩:=mem t ht
   simp
 · intro t ht
   obtain⟨i,hi,rfl⟩:=mem t ht
   exact pos _ (gw i hi)
 · intro j hj
   have:j<ws.length:=by simpa [BE]using hj
   exact .inl (zr this)
 · unfold T0
   rw[List.map_map]
   exact CQ ws
 · intro h t ht u hu
   obtain⟨i,hi,rfl⟩:=mem t ht
   obtain⟨j,hj,rfl⟩:=mem u hu
   have a:=hb h _ (gw i hi)
   have b:=hb h _ (gw j hj)
   show ws.getD i 0≤2* ws.getD j 0
   omega
 · intro h t ht q hq
   obtain⟨i,hi,rfl⟩:=mem t ht
   simp at hq
   subst hq
   have a:=hb h _ (gw i hi)
   show(3:Int)^0≤ws.getD i 0* 2^0
   rw[a];simp
theorem xY.run {bal:Bool} {n:Nat} {tot:Int} (ht:tot<1000000000000000):∀(m:Nat) (s:FS) (T:List Tr),xY bal n tot s T→T.length=m+1→(∀k,k<m→(FS.xK k s).ok)∧∃t,xY bal n tot (FS.xK m s) [t]
 | 0, s, T, v, h => by
   refine⟨fun k hk=>by omega, ?_⟩
   match T,h with
   |[t],_=>exact⟨t,v⟩
 | m + 1, s, T, v, h => by
   obtain⟨ok,T',hl,v'⟩:=v.step (by omega) ht
   obtain⟨h1,t,h2⟩:=xY.run ht m s.Ef T' v' (by omega)
   refine⟨fun k hk=> ?_,t,h2⟩
   cases k with
   |zero=>exact ok
   |succ k=>exact h1 k (by omega)
theorem Ni (ws:List Int) (bal:Bool) (h1:1≤ws.length) (pos:∀y∈ws,1≤y) (hs:ws.sum<1000000000000000) (hb:bal=true→∀y∈ws,y=1):
 (∀k,k<ws.length-1→(FS.xK k (BE ws)).ok)∧GO (FS.xK (ws.length-1) (BE ws)).U∧(FS.xK (ws.length-1) (BE ws)).U.length=(FS.xK (ws.length-1) (BE ws)).W.length∧
 (∀D:Nat,(∀d∈ve ws,d≤(D:Int))→((ve ws).map fun d=>2^(D-d.toNat)).sum=2^D)∧
 (bal=true→∀d∈ve ws,(3:Int)^d.toNat≤ws.sum* 2^d.toNat)∧(2≤ws.length→∀d∈ve ws,1≤d):=by
 obtain⟨ok,t,v⟩:=xY.run hs (ws.length-1) (BE ws) (T0 ws.length) (xY.init ws bal pos hb) (by simp [T0];omega)
 obtain⟨S,hS⟩:∃S,S=FS.xK (ws.length-1) (BE ws):=⟨_,rfl⟩
 have eD:ve ws=D7 S.U ws.length:=by rw[hS];rfl
 rw[←hS]at v ⊢
 have up:=v.up
 have rt:=(v.root t (by simp)).2
 have rtD:S.U.getD t.1 (-1)= -1:=by rw[QP,rt];rfl
 have rl:=(uu.1 rt).1
 have lv:=v.leaves
 simp only[QW,List.flatMap_nil,Q8]at lv
 have dep:∀q∈t.2,Bf S.U S.U.length (S.U.getD q.1 (-1))=q.2:=fun q hq=>by
  have:=v.pt t (by simp) q hq
  have l:=Eu up this
  exact Ev up this rtD _ (by omega)
 have pm:(ve ws).Perm (t.2.map fun q=>((q.2:Nat):Int)):=by
  rw[eD]
  unfold D7
  have:=lv.symm.map (fun i=>((Bf S.U S.U.length (S.U.getD i (-1)):Nat):Int))
  refine this.trans ?_
  rw[List.map_map]
  have e:t.2.map ((fun i=>((Bf S.U S.U.length (S.U.getD i (-1)):Nat):Int))∘fun x=>x.1)=t.2.map fun q=>((q.2:Nat):Int):=Rk fun q hq=>by
   show((Bf S.U S.U.length (S.U.getD q.1 (-1)):Nat):Int)=_
   rw[dep q hq]
  rw[e]
 have mem:∀d∈ve ws,∃q∈t.2,d=((q.2:Nat):Int):=fun d hd=>by
  obtain⟨q,hq,rfl⟩:=QZ.1 (pm.mem_iff.1 hd)
  exact⟨q,hq,rfl⟩
 refine⟨ok,up,v.lu,fun D hD=> ?_,fun hbt d hd=> ?_,fun h2 d hd=> ?_⟩
 · have:=DF (pm.map fun d=>2^(D-d.toNat))
   rw[this,List.map_map]
   have kk:=v.Cp t (by simp) D fun q hq=>by
    have:=hD ((q.2:Nat):Int) (pm.mem_iff.2 (QZ.2 ⟨q,hq,rfl⟩))
    omega
   rw[←kk]
   unfold kr
   congr 1
 · obtain⟨q,hq,rfl⟩:=mem d hd
   have:=v.HJ hbt t (by simp) q hq
   have sm:=v.sum
   rw[QY,Rw,Rg,List.sum_nil,Int.add_zero]at sm
   rw[←sm]
   exact this
 · obtain⟨q,hq,rfl⟩:=mem d hd
   have pq:=v.pt t (by simp) q hq
   apply Ra
   intro c
   have z:q.2=0:=by omega
   rw[z]at pq
   have e:q.1=t.1:=pq
   have ql:q.1<ws.length:=List.mem_range.1 (lv.mem_iff.1 (QZ.2 ⟨q,hq,rfl⟩))
   have rr:S.W.length=ws.length+(ws.length-1):=by rw[hS,FS.Az];rfl
   have kk:∀D,(∀p∈t.2,p.2≤D)→kr D t.2=2^D:=v.Cp t (by simp)
   obtain⟨D,hDD⟩:∃D,∀p∈t.2,p.2≤D:=⟨t.1,fun p hp=>by have:=Eu up (v.pt t (by simp) p hp);omega⟩
   have k:=kk D hDD
   have l2:t.2.length=ws.length:=by
    have:=lv.length_eq
    simpa using this
   have pe:=List.perm_cons_erase hq
   have:kr D t.2=kr D (q::t.2.erase q):=DF (pe.map _)
   rw[this]at k
   have:kr D (q::t.2.erase q)=2^(D-q.2)+kr D (t.2.erase q):=by simp [kr]
   rw[this,z,Nat.sub_zero]at k
   have le:=pe.length_eq
   rw[QQ]at le
   cases hE:t.2.erase q with
   |nil=>rw[hE]at le;simp at le;omega
   | cons y r =>
     rw[hE]at k
     have:kr D (y::r)=2^(D-y.2)+kr D r:=by simp [kr]
     have:=Nat.pow_pos (n:=D-y.2) (show 0<2 by omega)
     omega
def wD (l:List Int) (i:Nat):List Int:=l.set i (l.getD i 0+1)
theorem wN (l:List Int) (i:Nat):(wD l i).length=l.length:=by simp [wD]
theorem yi {l:List Int} {i:Nat} {n:Int} (h:∀y∈l,0≤y∧y≤n) (hn:0≤n):∀y∈wD l i,0≤y∧y≤n+1:=by
 intro y hy
 rcases Rl hy with q|q
 · have:=h y q;omega
 · subst q
   rw[QP]
   cases e:l[i]? with
   |none=>simp;omega
   |some z=>have:=h z (uE e);simp;omega
def xm (t:Tok):Prop:=(t.len=0∧0≤t.lit∧t.lit≤255)∨(3≤t.len∧t.len≤258∧1≤t.vG∧t.vG≤32768)
def yO:List Tok→List Int→List Int
 |[],A=>A
 |t::r,A=>yO r (if t.len=0 then wD A t.lit.toNat else wD A (wV t.len.toNat))
def zE:List Tok→List Int→List Int
 |[],B=>B
 |t::r,B=>zE r (if t.len=0 then B else wD B (xp t.vG.toNat))
structure JO (h h':H) (a b:Nat):Prop where
 floor:h'.floor=h.floor
 next:h.next≤h'.next
 vJ:∀i,i<h.next→i≠a→i≠b→h'.get i=h.get i
theorem JO.refl (h:H) (a b:Nat):JO h h a b:=⟨rfl,uy _,fun _ _ _ _=>rfl⟩
theorem JO.trans {x y z:H} {a b:Nat} (p:JO x y a b) (q:JO y z a b):JO x z a b:=⟨q.floor.trans p.floor,uS p.next q.next,fun i h1 h2 h3=>(q.vJ i (Nat.lt_of_lt_of_le h1 p.next) h2 h3).trans (p.vJ i h1 h2 h3)⟩
theorem Aq {l:List Int} {i:Nat} (h:i<l.length):(ints l)[i]?=some (.int .i64 (l.getD i 0)):=sq (by rw[QP,QR h];rfl)
theorem BW:∀(ts:List Tok) (A:List Int),(yO ts A).length=A.length
 |[],A=>rfl
 |t::r,A=>by rw[yO,BW r];split<;>rw[wN]
theorem B3:∀(ts:List Tok) (A:List Int),(zE ts A).length=A.length
 |[],A=>rfl
 | t :: r, A => by
   rw[zE,B3 r]
   split
   · rfl
   · rw[wN]
theorem BX:∀(ts:List Tok) (A:List Int) (n:Int),0≤n→(∀y∈A,0≤y∧y≤n)→∀y∈yO ts A,0≤y∧y≤n+ts.length
 |[],A,n,hn,h=>by simpa [yO]using h
 | t :: r, A, n, hn, h => by
   intro y hy
   rw[yO]at hy
   have:=BX r _ (n+1) (by omega) (by split<;>exact yi h hn) y hy
   simp only[QQ];omega
theorem B4:∀(ts:List Tok) (A:List Int) (n:Int),0≤n→(∀y∈A,0≤y∧y≤n)→∀y∈zE ts A,0≤y∧y≤n+ts.length
 |[],A,n,hn,h=>by simpa [zE]using h
 | t :: r, A, n, hn, h => by
   intro y hy
   rw[zE]at hy
   have:=B4 r _ (n+1) (by omega) (by
    split
    · intro z hz;have:=h z hz;omega
    · exact yi h hn) y hy
   simp only[QQ];omega
def wK:List Int→List Int→List Int
 |[],C=>C
 |d::r,C=>wK r (wD C d.toNat)
theorem Ah:∀(ds C:List Int),(wK ds C).length=C.length
 |[],C=>rfl
 |d::r,C=>by rw[wK,Ah r,wN]
theorem Ai:∀(ds A:List Int) (n:Int),0≤n→(∀y∈A,0≤y∧y≤n)→∀y∈wK ds A,0≤y∧y≤n+ds.length
 |[],A,n,hn,h=>by simpa [wK]using h
 | t :: r, A, n, hn, h => by
   intro y hy
   rw[wK]at hy
   have:=Ai r _ (n+1) (by omega) (yi h hn) y hy
   simp only[QQ];omega
def yJ (R:List Int):List Nat:=R.flatMap fun y=>vb y.toNat 3
theorem y9:∀R:List Int,(yJ R).length=3* R.length
 |[]=>rfl
 | y :: R => by
   have:=y9 R
   unfold yJ at *
   rw[QW,uU,this];simp [vb,vp];omega
def xZ (E:List (Int×Int)) (D:List Int):List Nat:=D.flatMap fun y=>u4 E y.toNat
theorem BQ {E:List (Int×Int)}:∀{D:List Int},(∀y∈D,Ac E y.toNat)→(xZ E D).length≤15* D.length
 |[],_=>by simp [xZ]
 | y :: D, h => by
   have:=BQ (E:=E) (D:=D) fun z hz=>h z (by simp [hz])
   obtain⟨n,v,_,q1,q2,q3,q4⟩:=(h y (by simp)).bits
   unfold xZ at *
   rw[QW,uU,q4,vO,QQ];omega
theorem wh (l:List Int) (k:Nat):∀n,k≤vz l k n∧vz l k n≤max k n
 |0=>⟨uy _,by rw[vz];omega⟩
 | n + 1 => by
   rw[vz]
   have:=wh l k n
   split
   · omega
   · split
     · omega
     · omega
theorem A5:∀(K:Nat) (S W O:List Int),(xV S K W O).length=O.length
 |0,S,W,O=>by rw[xV,v8]
 |K+1,S,W,O=>by rw[xV,A5 K,v8]
theorem xb (C:List Int) (K:Nat):(vN C K).length=C.length:=by unfold vN;rw[A5];simp
theorem Ho (h:H) (l:List Int) {k:Nat} (hk:k≤l.length):Rd h (.aU false (ints l) 0 k 1) (ints (l.take k)):=by
 refine⟨?_,by intro s e;cases e⟩
 have:(ints (l.take k)).length=k:=by rw[pf,Ri];omega
 rw[this]
 simp [aR,ints,hk,List.map_take]
def dA (ts:List Tok):List Int:=yO ts ((List.replicate 286 0).set 256 1)
def dB (ts:List Tok):List Int:=zE ts (List.replicate 30 0)
def xy (l:List Int) (k:Nat):List Int:=l.take (vz l k l.length)
theorem Al (l:List Int) {k:Nat} (h:k≤l.length):(xy l k).length=vz l k l.length:=by
 have:=wh l k l.length
 unfold xy;rw[Ri];omega
def vw (ts:List Tok) (la lb Lc:List Int):List Nat:=
 let all:=la++lb
 let row:=vk.map (fun o=>Lc.getD o.toNat 0)
 let k:=vz row 4 19
 vb 5 3++(vb (la.length-257) 5++(vb (lb.length-1) 5++(vb (k-4) 4++(yJ (row.take k)++(xZ (uX Lc) all++(vP (uX la) (uX lb) ts++u4 (uX la) 256))))))
structure Ad (ts:List Tok) (KA KB KC:Nat) (la lb Lc:List Int):Prop where
 yw:yf ts=true
 n:ts.length≤300
 tok:∀t∈ts,xm t
 ra:wC 15 KA (wo (dA ts))
 rb:wC 15 KB (wo (dB ts))
 ea:la=xy (vN (dA ts) KA) 257
 eb:lb=xy (vN (dB ts) KB) 1
 all:∀y∈la++lb,0≤y∧y<19
 rc:wC 7 KC (wo (wK (la++lb) (List.replicate 19 0)))
 ec:Lc=vN (wK (la++lb) (List.replicate 19 0)) KC
 row:∀y∈Lc,0≤y∧y<8
 ca:vn la=0∨vn la=302
 cb:vn lb=0∨vn lb=302
 cc:vn Lc=0∨vn Lc=302
 yk:∀y∈la++lb,Ac (uX Lc) y.toNat
 Il:∀t∈ts,F8 (uX la) (uX lb) t
 Bq:Ac (uX la) 256
theorem yC (l:List Int):(uX l).length=l.length:=by simp [uX]
theorem y7 (h:H) (l:List Int):xQ 2 h (yQ l) (uX l).length ((uX l).flatMap wq):=by
 have:=GF (n:=2) (k:=l.length) (h:=h) (cs:=(uX l).flatMap wq) (by rw[AU yl,yC])
 rw[yC];exact this
theorem zY (h:H) (l:List Int):Rd h (yL 1 l.length (ints l)) (ints l):=by
 have:=GF (n:=1) (k:=l.length) (h:=h) (cs:=ints l) (by rw[pf];omega)
 exact⟨by have:=this.1;rw[pf];exact this,this.2.2⟩
theorem Cu {C:List Int} (h:2≤C.length):(vY C).length≤C.length:=FJ h (v9 0 C)
theorem KO (c:Int):∀k:Nat,c* 2^k<3^k→0≤c→∀m:Nat,c* 2^(k+m)<3^(k+m)
 |k,h,hc,0=>h
 | k, h, hc, m + 1 => by
   have ih:=KO c k h hc m
   rw[←ux,Int.pow_succ,Int.pow_succ,←Int.mul_assoc]
   have p:(0:Int)≤c* 2^(k+m):=Int.mul_nonneg hc (Int.pow_nonneg (by omega))
   omega
theorem Ay:∀(ds:List Int) (a m:Int),(∀d∈ds,d≤m)→a≤m→zR ds a≤m
 |[],a,m,_,h=>h
 | d :: ds, a, m, hd, h => by
   rw[zR]
   refine Ay ds _ m (fun x hx=>hd x (by simp [hx])) ?_
   have:=hd d (by simp)
   unfold Cw;split<;>omega
theorem BM:∀(ds:List Int) (a:Int),a≤zR ds a∧∀d∈ds,d≤zR ds a
 |[],a=>⟨Rr _,by simp⟩
 | d :: ds, a => by
   have⟨h1,h2⟩:=BM ds (Cw a d)
   have:a≤Cw a d∧d≤Cw a d:=by unfold Cw;split<;>omega
   rw[zR]
   refine⟨by omega,fun x hx=> ?_⟩
   rcases uR.1 hx with q|q
   · subst q;omega
   · exact h2 x q
theorem Fw:∀ws:List Int,(∀y∈ws,y=1)→ws.sum=ws.length
 |[],_=>rfl
 | y :: ws, h => by
   have:=Fw ws fun z hz=>h z (by simp [hz])
   have:=h y (by simp)
   rw[Rg,QQ];omega
theorem Er:∀ws:List Int,(∀y∈ws,1≤y)→(ws.length:Int)≤ws.sum
 |[],_=>by simp
 | y :: ws, h => by
   have:=Er ws fun z hz=>h z (by simp [hz])
   have:=h y (by simp)
   rw[Rg,QQ];omega
theorem AY:∀ws:List Int,(∀y∈ws,1≤y)→(vT ws).sum≤ws.sum∧((∃y∈ws,y≠1)→(vT ws).sum<ws.sum)
 |[],_=>⟨Rr _,by simp⟩
 | y :: ws, h => by
   obtain⟨h1,h2⟩:=AY ws fun z hz=>h z (by simp [hz])
   have hy:=h y (by simp)
   have e:(vT (y::ws)).sum=xS y+(vT ws).sum:=by simp [vT]
   rw[e,Rg]
   have a:xS y≤y:=by unfold xS;omega
   refine⟨by omega,fun ⟨z,hz,hz1⟩=> ?_⟩
   rcases uR.1 hz with q|q
   · subst q
     have:xS z<z:=by unfold xS;omega
     omega
   · have:=h2 ⟨z,q,hz1⟩;omega
theorem Dj {ws:List Int} (h:∀y∈ws,1≤y):∀y∈vT ws,1≤y:=by
 intro y hy
 obtain⟨z,hz,rfl⟩:=QZ.1 hy
 have:=h z hz
 unfold xS;omega
theorem Cy {ws:List Int} (h1:1≤ws.length) (ho:∀y∈ws,y=1) {c:Int} {k:Nat} (hc:(ws.length:Int)≤c) (hk:c* 2^(k+1)<3^(k+1)) (hs:ws.length≤288):∀d∈ve ws,d≤k:=by
 intro d hd
 have sm:=Fw ws ho
 obtain⟨_,_,_,_,hb,_⟩:=Ni ws true h1 (fun y hy=>by have:=ho y hy;omega) (by omega) (fun _=>ho)
 have b:=hb rfl d hd
 apply Ra
 intro q
 obtain⟨m,hm⟩:∃m:Nat,d.toNat=k+1+m:=⟨d.toNat-(k+1),by omega⟩
 rw[hm]at b
 have:=KO c (k+1) hk (by omega) m
 have p:(0:Int)<2^(k+1+m):=Int.pow_pos (by omega)
 have:ws.sum* 2^(k+1+m)≤c* 2^(k+1+m):=Int.mul_le_mul_of_nonneg_right (by omega) (by omega)
 omega
theorem Fv {ws:List Int} (hl:ws.length≤288) (pos:∀y∈ws,1≤y) (hs:ws.sum<1000000000000000):Hf ws:=by
 by_cases e:ws=[]
 · exact .inl e
 · have h1:1≤ws.length:=List.length_pos_iff.2 e
   obtain⟨a,b,c,_⟩:=Ni ws false h1 pos hs (fun h=>by cases h)
   exact .inr ⟨h1,hl,a,b,c⟩
theorem Ig {most : Int} (hm : 0 ≤ most) : ∀ (f : Nat) (ws : List Int), ws.sum ≤ f → (∀ y ∈ ws, 1 ≤ y) → ws.sum < 1000000000000000 → ((13 ≤ most ∧ ws.length ≤ 288) ∨ (7 ≤ most ∧ ws.length ≤ 19)) → ∃ K, wC most K ws := by
 intro f
 induction f with
 | zero =>
   intro ws hf pos hs hl
   have:=Er ws pos
   have:ws=[]:=List.length_eq_zero_iff.1 (by omega)
   subst this
   exact⟨0,.last (.inl rfl) hm⟩
 | succ f ih =>
   intro ws hf pos hs hl
   have o:=Fv (by omega) pos hs
   by_cases c:zR (ve ws) 0≤most
   · exact⟨0,.last o c⟩
   · have hne:ws≠[]:=fun e=>by subst e;exact c hm
     have h1:1≤ws.length:=List.length_pos_iff.2 hne
     have ho:∃y∈ws,y≠1:=by
      apply Ra
      intro q
      have all1:∀y∈ws,y=1:=fun y hy=>Ra fun r=>q ⟨y,hy,r⟩
      rcases hl with ⟨a,b⟩|⟨a,b⟩
      · have:=Cy (c:=288) (k:=13) h1 all1 (by omega) (by decide) (by omega)
        exact c (Ay _ _ _ (fun d hd=>by have:=this d hd;omega) hm)
      · have:=Cy (c:=19) (k:=7) h1 all1 (by omega) (by decide) (by omega)
        exact c (Ay _ _ _ (fun d hd=>by have:=this d hd;omega) hm)
     have hh:=(AY ws pos).2 ho
     obtain⟨K,r⟩:=ih (vT ws) (by omega) (Dj pos) (by omega) (by rw[zj];exact hl)
     exact⟨K+1,.more o (by omega) hne r⟩
theorem wu:∀(S D O:List Int) (p:Nat),(∀s∈S,s.toNat≠p)→(vE S D O)[p]?=O[p]?
 |[],D,O,p,h=>by simp [vE]
 |s::S,[],O,p,h=>by simp [vE]
 | s :: S, d :: D, O, p, h => by
   rw[vE,wu S D _ p fun t ht=>h t (by simp [ht]),Q5,if_neg (h s (by simp))]
theorem xe:∀(S D O:List Int) (j:Nat) (s d:Int),(S.map Int.toNat).Nodup→S[j]?=some s→D[j]?=some d→s.toNat<O.length→(vE S D O)[s.toNat]?=some d
 |[],D,O,j,s,d,nd,h1,h2,h3=>by simp at h1
 |t::S,[],O,j,s,d,nd,h1,h2,h3=>by simp at h2
 | t :: S, e :: D, O, 0, s, d, nd, h1, h2, h3 => by
   simp at h1 h2
   subst h1;subst h2
   rw[QY,Rv]at nd
   rw[vE,wu S D _ _ fun u hu q=>nd.1 (QZ.2 ⟨u,hu,q⟩),Q5,if_pos rfl,if_pos h3]
 | t :: S, e :: D, O, j + 1, s, d, nd, h1, h2, h3 => by
   rw[QY,Rv]at nd
   rw[vE]
   exact xe S D _ j s d nd.2 (by simpa using h1) (by simpa using h2) (by rw[Rb];exact h3)
theorem xk {S D O:List Int} {n:Nat} (hl:D.length=S.length) (nd:(S.map Int.toNat).Nodup) (hO:O.length=n) (hr:∀s∈S,s.toNat<n) (hz:∀p,p<n→(∀s∈S,s.toNat≠p)→O[p]?=some 0):vE S D O=vE S D (List.replicate n 0):=by
 apply List.ext_getElem?
 intro p
 by_cases hp:p<n
 · by_cases c:∃s∈S,s.toNat=p
   · obtain⟨s,hs,rfl⟩:=c
     obtain⟨j,hj,ej⟩:=Rm.1 hs
     have h1:S[j]?=some s:=by rw[QR hj,ej]
     have h2:D[j]?=some (D[j]'(by omega)):=QR (by omega)
     rw[xe S D O j s _ nd h1 h2 (by omega),xe S D _ j s _ nd h1 h2 (by simpa using hp)]
   · have c':∀s∈S,s.toNat≠p:=fun s hs q=>c ⟨s,hs,q⟩
     rw[wu _ _ _ _ c',wu _ _ _ _ c',hz p hp c',Rf,if_pos hp]
 · rw[Q3 (by rw[v8];omega),Q3 (by rw[v8];simp;omega)]
theorem Ct {most:Int} {S:List Int} {n:Nat} (nd:(S.map Int.toNat).Nodup) (hr:∀s∈S,s.toNat<n):∀(K:Nat) (W O:List Int),wC most K W→W.length=S.length→(∀y∈W,1≤y)→W.sum<1000000000000000→O.length=n→(∀p,p<n→(∀s∈S,s.toNat≠p)→O[p]?=some 0)→
 ∃W',W'.length=S.length∧(∀y∈W',1≤y)∧W'.sum<1000000000000000∧zR (ve W') 0≤most∧xV S K W O=vE S (ve W') (List.replicate n 0)
 | 0, W, O, r, hl, pos, hs, hO, hz => by
   cases r with
   |last o c=>exact⟨W,hl,pos,hs,c,xk (by rw[vW,hl]) nd hO hr hz⟩
 | K + 1, W, O, r, hl, pos, hs, hO, hz => by
   cases r with
   | more o c hne r =>
     have:=(AY W pos).1
     exact Ct nd hr K (vT W) _ r (by rw[zj,hl]) (Dj pos) (by omega) (by rw[v8,hO]) (fun p hp hq=>by rw[wu _ _ _ _ hq];exact hz p hp hq)
theorem Hu (f:Int→Nat):∀(O:List Int) (i:Nat) (d:Int),i<O.length→((O.set i d).map f).sum+f (O.getD i 0)=(O.map f).sum+f d
 |[],i,d,h=>by simp at h
 |x::O,0,d,h=>by simp;omega
 | x :: O, i + 1, d, h => by
   have:=Hu f O i d (by simpa using h)
   simp only[List.set_cons_succ,QY,Rg,List.getD_cons_succ];omega
theorem CM (f:Int→Nat):∀(S D O:List Int),D.length=S.length→(S.map Int.toNat).Nodup→(∀s∈S,s.toNat<O.length)→((vE S D O).map f).sum+(S.map fun s=>f (O.getD s.toNat 0)).sum=(O.map f).sum+(D.map f).sum
 | [], D, O, hl, nd, hr => by
   have:D=[]:=List.length_eq_zero_iff.1 (by simpa using hl)
   subst this
   simp [vE]
 |s::S,[],O,hl,nd,hr=>by simp at hl
 | s :: S, d :: D, O, hl, nd, hr => by
   rw[QY,Rv]at nd
   have ih:=CM f S D (O.set s.toNat d) (by simpa using hl) nd.2 (fun t ht=>by rw[Rb];exact hr t (by simp [ht]))
   have e:(S.map fun t=>f ((O.set s.toNat d).getD t.toNat 0))=S.map fun t=>f (O.getD t.toNat 0):=Rk fun t ht=>by
    rw[getD_set_ne (fun q=>nd.1 (QZ.2 ⟨t,ht,q.symm⟩))]
   rw[e]at ih
   have ss:=Hu f O s.toNat d (hr s (by simp))
   simp only[vE,QY,Rg]
   omega
def f15 (n:Nat) (x:Int):Nat:=if 1≤x∧x≤n then 2^(n-x.toNat)else 0
theorem Dw:∀n,vm [] n=2^n
 |0=>rfl
 | n + 1 => by
   have c:wx [] (n+1)=0:=J3 _
   rw[vm,Dw n,c,Int.pow_succ];omega
theorem Du (n:Nat):∀(q p:List Int),vm (p++q) n=vm p n-((q.map (f15 n)).sum:Nat)
 |[],p=>by simp
 | x :: q, p => by
   have e:p++x::q=(p++[x])++q:=by simp
   rw[e,Du n q (p++[x]),Cr,QY,Rg]
   unfold f15
   split
   · push_cast;omega
   · push_cast;omega
theorem zm (l:List Int) (n:Nat):vm l n=2^n-((l.map (f15 n)).sum:Nat):=by
 have:=Du n l []
 rwa [List.nil_append,Dw]at this
theorem Dv (l:List Int):∀n,u7 l n+wx l n+vm l n=2^n
 |0=>by simp [u7,vm,wx]
 | n + 1 => by
   have:=Dv l n
   rw[u7,vm,Int.pow_succ];omega
theorem Gq {l:List Int} {n:Nat} (h:0≤vm l n):∀m,m≤n→0≤vm l m:=by
 have:∀k m,m+k=n→0≤vm l m:=by
  intro k
  induction k with
  | zero =>
    intro m hm
    have:m=n:=by omega
    subst this;exact h
  | succ k ih =>
    intro m hm
    have:=ih (m+1) (by omega)
    rw[vm]at this
    omega
 exact fun m hm=>this (n-m) m (by omega)
theorem EZ {l:List Int} {s:Nat} (hs:s<l.length) {n:Nat} (hn:1≤n) (e:l.getD s 0=(n:Int)):wx (l.take s) n<wx l n:=by
 have a:=C6 hs n hn
 rw[if_pos e]at a
 have:∀(p q:List Int),wx p n≤wx (p++q) n:=fun p q=>by
  unfold wx;split
  · exact uy _
  · rw[List.countP_append];omega
 have b:=this (l.take (s+1)) (l.drop (s+1))
 rw[List.take_append_drop]at b
 omega
theorem Ek {l:List Int} (hl:0≤vm l 15) (hr:∀y∈l,0≤y∧y<16) {s:Nat} (hs:s<l.length) (h1:1≤l.getD s 0):Ac (uX l) s:=by
 have hm:l.getD s 0∈l:=by rw[QP,QR hs];exact Q6 hs
 have r:=hr _ hm
 obtain⟨n,hn⟩:=QX r.1
 have n1:1≤n:=by omega
 have lt:=EZ hs n1 hn
 have f:=Dv l n
 have m:=Gq hl n (by omega)
 have fb:=(show 0≤u7 l n from by
  have:∀n,0≤u7 l n:=by
   intro n
   induction n with
   |zero=>simp [u7]
   |succ n ih=>rw[u7];omega
  exact this n)
 have tn:((n:Nat):Int).toNat=n:=by omega
 refine⟨n,(u7 l n+wx (l.take s) n).toNat, ?_,n1,by omega, ?_⟩
 · unfold uX
   rw[uJ,Rj hs,QU]
   unfold yd
   rw[if_pos h1,hn,tn]
   congr 2
   omega
 · have e2:((2^n:Nat):Int)=(2:Int)^n:=by push_cast;rfl
   omega
theorem Be:∀(C:List Int) (i:Nat),((u3 i C).map Int.toNat).Nodup
 |[],i=>by simp [u3]
 | c :: r, i => by
   have ih:=Be r (i+1)
   rw[u3]
   split
   · rw[QY,Rv]
     refine⟨fun h=> ?_,ih⟩
     obtain⟨s,hs,e⟩:=QZ.1 h
     have:=wF (i+1) r s hs
     omega
   · exact ih
theorem z9:∀(C:List Int) (i p:Nat),0<C.getD p 0→((i+p:Nat):Int)∈u3 i C
 |[],i,p,h=>by simp at h
 | c :: r, i, 0, h => by
   rw[u3,if_pos (by simpa using h)]
   simp
 | c :: r, i, p + 1, h => by
   have ih:=z9 r (i+1) p (by simpa using h)
   have e:i+1+p=i+(p+1):=by omega
   rw[e]at ih
   rw[u3]
   split
   · exact Rn _ ih
   · exact ih
theorem CS:∀(C:List Int) (i:Nat),(∀y∈C,¬0<y)→u3 i C=[]
 |[],i,h=>rfl
 | c :: r, i, h => by
   rw[u3,if_neg (h c (by simp))]
   exact CS r (i+1) fun y hy=>h y (by simp [hy])
theorem FK {S:List Int} {s:Int} (h:s∈S):s∈AF S:=by
 unfold AF
 split
 · rename_i h1
   match S,h1 with
   | [t], _ =>
     simp at h;subst h
     split<;>simp
 · exact h
theorem Kl {S : List Int} (h : (S.map Int.toNat).Nodup) (hp : ∀ s ∈ S, 0 ≤ s) : ((AF S).map Int.toNat).Nodup := by
 unfold AF
 split
 · rename_i h1
   match S,h1 with
   | [t], _ =>
     have:=hp t (by simp)
     split
     · rename_i c
       simp at c ⊢
       omega
     · rename_i c
       simp at c ⊢
       omega
 · exact h
theorem Jf {S:List Int} (h:S≠[]):2≤(AF S).length:=by
 unfold AF
 split
 · rename_i h1
   split
   · simp
   · simp [h1]
 · rename_i h1
   have:=List.length_pos_iff.2 h
   omega
theorem Jg {S W:List Int} (hl:W.length=S.length) (h:∀y∈W,1≤y):∀y∈GA S W,1≤y:=by
 intro s hs
 unfold GA at hs
 split at hs
 · rename_i h1
   rw[←hl]at h1
   match W,h1 with
   | [t], _ =>
     have:=h t (by simp)
     split at hs
     · simp at hs;omega
     · simp at hs;omega
 · exact h s hs
theorem FV {α:Type}:∀l:List α,(l.map fun _=>(0:Nat)).sum=0
 |[]=>rfl
 |x::l=>by rw[QY,Rg,FV l]
theorem H0 {C:List Int} (h:∀y∈C,¬0<y):vY C=[]:=by
 unfold vY;rw[CS C 0 h];rfl
theorem z4:∀(l:List Int) (b:Int),(∀y∈l,y≤b)→l.sum≤b* l.length
 |[],b,_=>by simp
 | y :: l, b, h => by
   have:=z4 l b fun z hz=>h z (by simp [hz])
   have hy:=h y (by simp)
   rw[Rg,QQ]
   have e:b* ((l.length+1:Nat):Int)=b* l.length+b:=by rw[Int.natCast_add,Int.mul_add];simp
   omega
theorem Fq {C : List Int} (hC : ∀ y ∈ C, 0 ≤ y ∧ y ≤ 2147483647) (h2 : 2 ≤ C.length) (hl : C.length ≤ 288) : (∀ y ∈ wo C, 1 ≤ y) ∧ (wo C).sum < 1000000000000000 := by
 have pos:∀y∈wo C,1≤y:=Jg (vA 0 C).symm fun y hy=>by have:=(xF C y hy).2;omega
 refine⟨pos, ?_⟩
 have up:∀y∈wo C,y≤2147483647:=by
  intro y hy
  have w:∀z∈u5 C,z≤2147483647:=fun z hz=>(hC z (xF C z hz).1).2
  unfold wo GA at hy
  split at hy
  · rename_i h1
    rw[vA]at h1
    match hW:u5 C,h1 with
    | [t], _ =>
      rw[hW]at w hy
      have:=w t (by simp)
      split at hy
      · simp at hy;omega
      · simp at hy;omega
  · exact w y hy
 have:=z4 (wo C) 2147483647 up
 have l1:(wo C).length=(vY C).length:=Gs C
 have l2:=Cu h2
 omega
theorem yV {C:List Int} {most:Int} (hC:∀y∈C,0≤y∧y≤2147483647) (h2:2≤C.length) (hm:0≤most) (hl:(13≤most∧C.length≤288)∨(7≤most∧C.length≤19)):∃K,wC most K (wo C):=by
 obtain⟨a,b⟩:=Fq hC h2 (by omega)
 have l1:(wo C).length=(vY C).length:=Gs C
 have l2:=Cu h2
 exact Ig hm (wo C).sum.toNat (wo C) (by have:=Er _ a;omega) a b (by omega)
theorem xC {C : List Int} {most : Int} {K : Nat} (hC : ∀ y ∈ C, 0 ≤ y ∧ y ≤ 2147483647) (h2 : 2 ≤ C.length) (hl : C.length ≤ 288) (hm : 0 ≤ most ∧ most ≤ 15) (r : wC most K (wo C)) :
 (vN C K).length=C.length∧(∀y∈vN C K,0≤y∧y≤most)∧(∀p,0<C.getD p 0→1≤(vN C K).getD p 0)∧((∃y∈C,0<y)→vm (vN C K) 15=0)∧((∀y∈C,¬0<y)→vN C K=List.replicate C.length 0):=by
 obtain⟨a,b⟩:=Fq hC h2 hl
 have nd:((vY C).map Int.toNat).Nodup:=Kl (Be C 0) fun s hs=>by have:=wF 0 C s hs;omega
 have rg:∀s∈vY C,0≤s∧s<C.length:=Je h2 fun s hs=>by have:=wF 0 C s hs;omega
 have rg':∀s∈vY C,s.toNat<C.length:=fun s hs=>by have:=rg s hs;omega
 obtain⟨W',w1,w2,w3,w4,w5⟩:=Ct nd rg' K (wo C) (List.replicate C.length 0) r (Gs C) a b (by simp) (fun p hp _=>by rw[Rf,if_pos hp])
 have e:vN C K=vE (vY C) (ve W') (List.replicate C.length 0):=w5
 have dl:(ve W').length=(vY C).length:=by rw[vW,w1]
 have dm:∀d∈ve W',d≤most:=fun d hd=>by have:=(BM (ve W') 0).2 d hd;omega
 have o:=Fv (ws:=W') (by have:=Cu h2;omega) w2 w3
 have d0:=E4 o
 have gin:∀(j:Nat) (s d:Int),(vY C)[j]?=some s→(ve W')[j]?=some d→(vN C K)[s.toNat]?=some d:=fun j s d h1 h2=>by
  rw[e];exact xe _ _ _ j s d nd h1 h2 (by simpa using rg' s (uE h1))
 have gout:∀p:Nat,(∀s∈vY C,s.toNat≠p)→(vN C K)[p]?=(List.replicate C.length (0:Int))[p]?:=fun p hp=>by rw[e,wu _ _ _ _ hp]
 have hu:vY C≠[]→2≤(vY C).length:=fun hne=>by
  refine Jf fun q=>hne ?_
  unfold vY;rw[q];rfl
 have h1w:vY C≠[]→_:=fun hne=>Ni W' false (by have:=hu hne;omega) w2 w3 (fun h=>by cases h)
 refine⟨xb C K, ?_, ?_, ?_, ?_⟩
 · intro y hy
   obtain⟨p,hp⟩:=uM.1 hy
   by_cases c:∃s∈vY C,s.toNat=p
   · obtain⟨s,hs,rfl⟩:=c
     obtain⟨j,hj⟩:=uM.1 hs
     have jl:=(uu.1 hj).1
     have hd:(ve W')[j]?=some ((ve W')[j]'(by omega)):=QR (by omega)
     rw[gin j s _ hj hd]at hp
     obtain rfl:=uh hp
     have m:=Q6 (l:=ve W') (n:=j) (by omega)
     exact⟨(d0 _ m).1,dm _ m⟩
   · rw[gout p fun s hs q=>c ⟨s,hs,q⟩,Rf]at hp
     split at hp
     · obtain rfl:=uh hp;omega
     · cases hp
 · intro p hp
   have sm:=z9 C 0 p hp
   rw[uF]at sm
   have hs:(p:Int)∈vY C:=FK sm
   obtain⟨j,hj⟩:=uM.1 hs
   have jl:=(uu.1 hj).1
   have hd:(ve W')[j]?=some ((ve W')[j]'(by omega)):=QR (by omega)
   have g:=gin j _ _ hj hd
   have tp:((p:Nat):Int).toNat=p:=by omega
   rw[tp]at g
   rw[QP,g]
   have hne:vY C≠[]:=fun q=>by rw[q]at hs;simp at hs
   exact(h1w hne).2.2.2.2.2 (by have:=hu hne;omega) _ (Q6 _)
 · rintro ⟨y,hy,hpos⟩
   obtain⟨p,hp⟩:=uM.1 hy
   have sm:=z9 C 0 p (by rw[QP,hp];exact hpos)
   have hs:((0+p:Nat):Int)∈vY C:=FK sm
   have hne:vY C≠[]:=fun q=>by rw[q]at hs;simp at hs
   have H:=h1w hne
   have kr:=H.2.2.2.1 15 (fun d hd=>by have:=dm d hd;omega)
   have one:=H.2.2.2.2.2 (by have:=hu hne;omega)
   have ss:=CM (f15 15) (vY C) (ve W') (List.replicate C.length 0) dl nd (fun s hs=>by simpa using rg' s hs)
   rw[←e]at ss
   have z1:((vY C).map fun s=>f15 15 ((List.replicate C.length (0:Int)).getD s.toNat 0)).sum=0:=by
    have:(vY C).map (fun s=>f15 15 ((List.replicate C.length (0:Int)).getD s.toNat 0))=(vY C).map fun _=>0:=Rk fun s hs=>by
     rw[zr (rg' s hs)];rfl
    rw[this,FV]
   have z2:((List.replicate C.length (0:Int)).map (f15 15)).sum=0:=by
    rw[List.map_replicate]
    have:f15 15 0=0:=rfl
    rw[this];simp
   have z3:(ve W').map (f15 15)=(ve W').map fun d=>2^(15-d.toNat):=Rk fun d hd=>by
    unfold f15
    rw[if_pos ⟨one d hd,by have:=dm d hd;omega⟩]
   rw[z1,z2,z3,kr]at ss
   rw[zm,show((vN C K).map (f15 15)).sum=2^15 by omega]
   rfl
 · intro h
   rw[e,H0 h]
   simp [vE]
theorem xO (l : List Int) (k : Nat) : ∀ n p, vz l k n ≤ p → p < n → ¬ 0 < l.getD p 0
 |0,p,h1,h2=>by omega
 | n + 1, p, h1, h2 => by
   rw[vz]at h1
   split at h1
   · omega
   · split at h1
     · omega
     · by_cases e:p=n
       · subst e;assumption
       · exact xO l k n p h1 (by omega)
theorem BJ {l : List Int} (hr : ∀ y ∈ l, 0 ≤ y) (k n : Nat) : vm (xy l k) n = vm l n := by
 have e:l=xy l k++l.drop (vz l k l.length):=(List.take_append_drop _ _).symm
 have z:((l.drop (vz l k l.length)).map (f15 n)).sum=0:=by
  have:∀q:List Int,(∀y∈q,y=0)→(q.map (f15 n)).sum=0:=by
   intro q
   induction q with
   |nil=>intro _;rfl
   | cons x q ih =>
     intro h
     rw[QY,Rg,ih fun y hy=>h y (by simp [hy]),h x (by simp)]
     unfold f15;simp
  refine this _ fun y hy=> ?_
  obtain⟨j,hj⟩:=uM.1 hy
  rw[uL]at hj
  have hl:=(uu.1 hj).1
  have:=xO l k l.length (vz l k l.length+j) (by omega) hl
  rw[QP,hj]at this
  have:=hr y (List.mem_of_mem_drop hy)
  simp at *
  omega
 rw[zm,zm]
 have:(l.map (f15 n)).sum=((xy l k).map (f15 n)).sum:=by
  conv=>lhs;rw[e]
  rw[List.map_append,List.sum_append,z,Nat.add_zero]
 rw[this]
theorem J5 {l:List Int} (k:Nat) {p:Nat} (h:0<l.getD p 0):p<(xy l k).length∧(xy l k).getD p 0=l.getD p 0:=by
 have hp:p<l.length:=by
  apply Ra
  intro c
  rw[QP,Q3 (by omega)]at h
  simp at h
 have:p<vz l k l.length:=by
  apply Ra
  intro c
  exact xO l k l.length p (by omega) hp h
 unfold xy
 refine⟨by rw[Ri];omega, ?_⟩
 rw[QP,uT,if_pos this,←QP]
theorem xh {l:List Int} (h1:1≤l.length) (h2:l.length≤288) (hr:∀y∈l,0≤y∧y<16) (h:0≤vm l 15):vn l=if vm l 15=0 then 0 else 302:=by
 have hm:zS l=true:=by
  unfold zS
  have:(ints l).any D3=false:=by
   rw[List.any_eq_false]
   intro x hx
   obtain⟨y,hy,rfl⟩:=QZ.1 hx
   have:=hr y hy
   simp [D3,I];omega
  rw[this];simp;omega
 unfold vn
 rw[if_neg (by rw[hm];simp),if_neg (by omega)]
 split
 · rw[if_neg (by omega)]
 · rw[if_pos (by omega)]
theorem FQ (s:ByteArray) (i j:Nat):∀f k,(∀m,m<k→xn s (i+m)=xn s (j+m))→∀m,m<xM s i j f k→xn s (i+m)=xn s (j+m)
 |0,k,h=>by simpa [xM]using h
 | f + 1, k, h => by
   unfold xM
   split
   · rename_i q
     refine FQ s i j f (k+1) fun m hm=> ?_
     by_cases e:m=k
     · subst e;exact q.2.2
     · exact h m (by omega)
   · exact h
theorem zH (s:ByteArray) (i:Nat) (hi:i≤s.size):∀(n:Nat) (b:Nat×Nat),n≤i→(b.1=0∨(b.1≤258∧1≤b.2∧b.2≤i∧i+b.1≤s.size∧∀m,m<b.1→xn s (i+m)=xn s (i-b.2+m)))→
 ((vF s i n b).1=0∨((vF s i n b).1≤258∧1≤(vF s i n b).2∧(vF s i n b).2≤i∧i+(vF s i n b).1≤s.size∧∀m,m<(vF s i n b).1→xn s (i+m)=xn s (i-(vF s i n b).2+m)))
 |0,b,hn,h=>h
 | n + 1, b, hn, h => by
   unfold vF
   refine zH s i hi n _ (by omega) ?_
   split
   · right
     refine⟨Hq s i n,by show 1≤i-n;omega,by show i-n≤i;omega,DN s i n hi,fun m hm=> ?_⟩
     have:=FQ s i n 258 0 (fun m hm=>by omega) m hm
     have e:i-(i-n)=n:=by omega
     show xn s (i+m)=xn s (i-(i-n)+m)
     rw[e];exact this
   · exact h
def preB (s:ByteArray) (i:Nat):List Nat:=(List.range i).map (xn s)
theorem xi (s:ByteArray) (i:Nat):(preB s i).length=i:=by simp [preB]
theorem zo (s:ByteArray) (i:Nat):preB s (i+1)=preB s i++[xn s i]:=by simp [preB,List.range_succ]
theorem FL (s:ByteArray) {i j:Nat} (h:j<i):(preB s i).getD j 0=xn s j:=by
 rw[QP,preB,uJ,Rj h];rfl
theorem GX (s:ByteArray) {d:Nat} (hd:1≤d):∀(n i:Nat),d≤i→(∀m,m<n→xn s (i+m)=xn s (i-d+m))→HQ d n (preB s i)=preB s (i+n)
 |0,i,h,_=>rfl
 | n + 1, i, h, hm => by
   have e0:=hm 0 (by omega)
   simp only[Nat.add_zero]at e0
   rw[HQ,xi,FL s (by omega),←e0,←zo,GX s hd n (i+1) (by omega) fun m h2=>by
    have:=hm (m+1) (by omega)
    have a1:i+(m+1)=i+1+m:=by omega
    have a2:i-d+(m+1)=i+1-d+m:=by omega
    rw[a1,a2]at this;exact this]
   congr 1;omega
theorem GJ (s:ByteArray) {i:Nat} (hi:i<s.size):((wg s i).1.len=0∧(wg s i).1.lit=xn s i∧(wg s i).1.vG=0∧(wg s i).2=i+1)∨
 (∃L D:Nat,(wg s i).1.len=L∧(wg s i).1.vG=D∧(wg s i).1.lit=0∧3≤L∧L≤258∧1≤D∧D≤i∧(wg s i).2=i+L∧i+L≤s.size∧∀m,m<L→xn s (i+m)=xn s (i-D+m)):=by
 unfold wg
 split
 · exact .inl ⟨rfl,rfl,rfl,rfl⟩
 · rename_i c
   right
   rcases zH s i (by omega) i (0,0) (uy _) (.inl rfl)with h|⟨h1,h2,h3,h4,h5⟩
   · omega
   · exact⟨_,_,rfl,rfl,rfl,by omega,h1,h2,h3,rfl,h4,h5⟩
theorem yq (s : ByteArray) (hs : s.size ≤ 300) : ∀ (f i : Nat), s.size - i ≤ f → i ≤ s.size → (zc s f i).length ≤ s.size - i ∧ (∀ t ∈ zc s f i, xm t) ∧ vt i (zc s f i) = true ∧ wk (zc s f i) (preB s i) = preB s s.size
 | 0, i, hf, hi => by
   have:i=s.size:=by omega
   subst this
   simp [zc,vt,wk]
 | f + 1, i, hf, hi => by
   rw[zc]
   split
   · rename_i c
     have lt:=F5 s i
     have le:=F4 s i c
     obtain⟨i1,i2,i3,i4⟩:=yq s hs f (wg s i).2 (by omega) le
     have sp:=GJ s c
     refine⟨by rw[QQ];omega, ?_, ?_, ?_⟩
     · intro t ht
       rcases uR.1 ht with q|q
       · subst q
         rcases sp with ⟨a,b,_,_⟩|⟨L,D,a,b,_,c1,c2,c3,c4,_,_,_⟩
         · have:=AN s i
           exact .inl ⟨a,by omega,by omega⟩
         · exact .inr ⟨by omega,by omega,by omega,by omega⟩
       · exact i2 t q
     · rw [vt]
       rcases sp with ⟨a,b,c0,d⟩|⟨L,D,a,b,c0,c1,c2,c3,c4,d,e,_⟩
       · have hb:=AN s i
         have st:vS (i:Int) (wg s i).1=some ((i:Int)+1):=by
          unfold vS
          rw[if_pos a,if_neg (by omega)]
         rw[st]
         simp only
         rw[if_neg (by omega)]
         have e:(((wg s i).2:Nat):Int)=(i:Int)+1:=by omega
         rw[←e];exact i3
       · have st:vS (i:Int) (wg s i).1=some ((i:Int)+L):=by
          unfold vS
          rw[if_neg (by omega),if_neg (by omega),a]
         rw[st]
         simp only
         rw[if_neg (by omega)]
         have e':(((wg s i).2:Nat):Int)=(i:Int)+L:=by omega
         rw[←e'];exact i3
     · rw [wk]
       rcases sp with ⟨a,b,c0,d⟩|⟨L,D,a,b,c0,c1,c2,c3,c4,d,e,g⟩
       · have:vC (preB s i) (wg s i).1=preB s (wg s i).2:=by
          unfold vC
          rw[if_pos a,b,d,zo];rfl
         rw[this];exact i4
       · have:vC (preB s i) (wg s i).1=preB s (wg s i).2:=by
          unfold vC
          rw[if_neg (by omega),a,b,d]
          exact GX s c3 L i c4 g
         rw[this];exact i4
   · have:i=s.size:=by omega
     subst this
     simp [vt,wk]
theorem Cb (s:ByteArray) (hs:s.size≤300):yf (tokens s)=true:=by
 obtain⟨_,_,h3,h4⟩:=yq s hs s.size 0 (by omega) (by omega)
 unfold yf xg tokens
 have h3':vt 0 (zc s s.size 0)=true:=h3
 rw[if_pos h3']
 have:wk (zc s s.size 0) []=preB s s.size:=h4
 rw[this]
 simp only[vR,xi]
 simpa using hs
theorem Ci (l:List Int) (i p:Nat):l.getD p 0≤(wD l i).getD p 0:=by
 unfold wD
 by_cases e:i=p
 · subst e
   by_cases h:i<l.length
   · rw[QP (l:=l.set i _),Q5,if_pos rfl,if_pos h]
     show l.getD i 0≤l.getD i 0+1
     omega
   · rw[List.set_eq_of_length_le (by omega)];exact Rr _
 · rw[getD_set_ne e];exact Rr _
theorem At {l:List Int} {i:Nat} (h:i<l.length):(wD l i).getD i 0=l.getD i 0+1:=by
 unfold wD
 rw[QP (l:=l.set i _),Q5,if_pos rfl,if_pos h];rfl
theorem Ag:∀(ts:List Tok) (A:List Int) (p:Nat),A.getD p 0≤(yO ts A).getD p 0
 |[],A,p=>Rr _
 | t :: r, A, p => by
   rw[yO]
   refine Int.le_trans ?_ (Ag r _ p)
   split<;>exact Ci _ _ _
theorem EW:∀(ts:List Tok) (A:List Int) (p:Nat),A.getD p 0≤(zE ts A).getD p 0
 |[],A,p=>Rr _
 | t :: r, A, p => by
   rw[zE]
   refine Int.le_trans ?_ (EW r _ p)
   split
   · exact Rr _
   · exact Ci _ _ _
theorem EY:∀(ts:List Int) (A:List Int) (p:Nat),A.getD p 0≤(wK ts A).getD p 0
 |[],A,p=>Rr _
 | t :: r, A, p => by
   rw[wK]
   exact Int.le_trans (Ci _ _ _) (EY r _ p)
theorem AB {A:List Int} (h:∀y∈A,0≤y) (p:Nat):0≤A.getD p 0:=by
 rw[QP]
 cases e:A[p]? with
 |none=>simp
 |some y=>exact h y (uE e)
theorem Gx {A:List Int} (h:∀y∈A,0≤y) (i:Nat):∀y∈wD A i,0≤y:=by
 intro y hy
 rcases Rl hy with q|q
 · exact h y q
 · have:=AB h i;omega
theorem EU : ∀ (ts : List Tok) (A : List Int), (∀ y ∈ A, 0 ≤ y) → A.length = 286 → ∀ t ∈ ts, xm t → (t.len = 0 → 1 ≤ (yO ts A).getD t.lit.toNat 0) ∧ (t.len ≠ 0 → 1 ≤ (yO ts A).getD (wV t.len.toNat) 0)
 |[],A,_,_,t,h,_=>by simp at h
 | u :: r, A, hA, hl, t, h, o => by
   rw[yO]
   rcases uR.1 h with q|q
   · subst q
     refine⟨fun h0=> ?_,fun h0=> ?_⟩
     · rw[if_pos h0]
       refine Int.le_trans ?_ (Ag r _ _)
       rcases o with ⟨_,b,c⟩|⟨a,_⟩
       · rw[At (by omega)]
         have:=AB hA t.lit.toNat;omega
       · omega
     · rw[if_neg h0]
       refine Int.le_trans ?_ (Ag r _ _)
       rcases o with ⟨a,_⟩|⟨a,b,_⟩
       · exact absurd a h0
       · have:=xE (k:=t.len.toNat) (by omega) (by omega)
         rw[At (by omega)]
         have:=AB hA (wV t.len.toNat);omega
   · exact EU r _ (by split<;>exact Gx hA _) (by split<;>rw[wN,hl]) t q o
theorem EX : ∀ (ts : List Tok) (A : List Int), (∀ y ∈ A, 0 ≤ y) → A.length = 30 → ∀ t ∈ ts, xm t → t.len ≠ 0 → 1 ≤ (zE ts A).getD (xp t.vG.toNat) 0
 |[],A,_,_,t,h,_,_=>by simp at h
 | u :: r, A, hA, hl, t, h, o, h0 => by
   rw[zE]
   rcases uR.1 h with q|q
   · subst q
     rw[if_neg h0]
     refine Int.le_trans ?_ (EW r _ _)
     rcases o with ⟨a,_⟩|⟨a,b,c,d⟩
     · exact absurd a h0
     · have:=xB (k:=t.vG.toNat) (by omega) (by omega)
       rw[At (by omega)]
       have:=AB hA (xp t.vG.toNat);omega
   · refine EX r _ ?_ ?_ t q o h0
     · split
       · exact hA
       · exact Gx hA _
     · split
       · exact hl
       · rw[wN,hl]
theorem B5:∀(ds:List Int) (A:List Int),(∀y∈A,0≤y)→A.length=19→∀y∈ds,0≤y∧y<19→1≤(wK ds A).getD y.toNat 0
 |[],A,_,_,t,h,_=>by simp at h
 | u :: r, A, hA, hl, t, h, o => by
   rw[wK]
   rcases uR.1 h with q|q
   · subst q
     refine Int.le_trans ?_ (EY r _ _)
     rw[At (by omega)]
     have:=AB hA t.toNat;omega
   · exact B5 r _ (Gx hA _) (by rw[wN,hl]) t q o
theorem yG (n:Nat):∀y∈List.replicate n (0:Int),0≤y∧y≤0:=fun y hy=>by have:=Rh hy;omega
theorem E1 (ts:List Tok) (hn:ts.length≤300):(dA ts).length=286∧(∀y∈dA ts,0≤y∧y≤2147483647)∧1≤(dA ts).getD 256 0:=by
 have z:∀y∈(List.replicate 286 (0:Int)).set 256 1,0≤y∧y≤1:=fun y hy=>by
  rcases Rl hy with q|q
  · have:=Rh q;omega
  · omega
 refine⟨by unfold dA;rw[BW,Rb,Q4],fun y hy=> ?_, ?_⟩
 · have:=BX ts _ 1 (by omega) z y hy;omega
 · have h:((List.replicate 286 (0:Int)).set 256 1).getD 256 0=1:=by decide
   have:=Ag ts ((List.replicate 286 0).set 256 1) 256
   rw[h]at this
   exact this
theorem E3 (ts:List Tok) (hn:ts.length≤300):(dB ts).length=30∧(∀y∈dB ts,0≤y∧y≤2147483647):=by
 refine⟨by unfold dB;rw[B3,Q4],fun y hy=> ?_⟩
 have:=B4 ts _ 0 (by omega) (yG 30) y hy;omega
theorem Ja {ts:List Tok} {la lb:List Int} {t:Tok} (o:xm t) (hA:t.len=0→Ac (uX la) t.lit.toNat) (hL:t.len≠0→Ac (uX la) (wV t.len.toNat)) (hB:t.len≠0→Ac (uX lb) (xp t.vG.toNat)):F8 (uX la) (uX lb) t:=by
 rcases o with ⟨a,b,c⟩|⟨a,b,c,d⟩
 · exact .inl ⟨a,b,hA a⟩
 · exact .inr ⟨a,b,c,d,hL (by omega),hB (by omega)⟩
theorem B9 {C l:List Int} {K k m:Nat} (hC:∀y∈C,0≤y∧y≤2147483647) (h2:2≤C.length) (hl:C.length≤288) (hk:k≤C.length) (hk1:1≤k) (r:wC 15 K (wo C)) (e:l=xy (vN C K) k):
 (k≤l.length∧l.length≤C.length)∧(∀y∈l,0≤y∧y<16)∧(vn l=0∨vn l=302)∧(∀p,0<C.getD p 0→Ac (uX l) p)∧0≤vm l 15:=by
 obtain⟨f1,f2,f3,f4,f5⟩:=xC hC h2 hl (by omega) r
 have ug:=wh (vN C K) k (vN C K).length
 have ll:l.length=vz (vN C K) k (vN C K).length:=by rw[e];exact Al _ (by omega)
 have hr:∀y∈l,0≤y∧y<16:=fun y hy=>by
  rw[e]at hy
  have:=f2 y (List.mem_of_mem_take hy)
  omega
 have lc:vm l 15=vm (vN C K) 15:=by rw[e];exact BJ (fun y hy=>(f2 y hy).1) k 15
 have l0:0≤vm l 15:=by
  rw[lc]
  by_cases c:∃y∈C,0<y
  · rw[f4 c];omega
  · rw[f5 fun y hy q=>c ⟨y,hy,q⟩]
    rw[zm,List.map_replicate]
    have:f15 15 0=0:=rfl
    rw[this];simp
 have ck:=xh (l:=l) (by omega) (by omega) hr l0
 refine⟨by omega,hr, ?_,fun p hp=> ?_,l0⟩
 · rw[ck];split
   · exact .inl rfl
   · exact .inr rfl
 · have g:=f3 p hp
   obtain⟨c1,c2⟩:=J5 k (show 0<(vN C K).getD p 0 by omega)
   rw[←e]at c1 c2
   exact Ek l0 hr c1 (by omega)
theorem G2 {ts:List Tok} (hn:ts.length≤300) (yw:yf ts=true) (t2:∀t∈ts,xm t):∃KA KB KC la lb Lc,Ad ts KA KB KC la lb Lc:=by
 obtain⟨a1,a2,a3⟩:=E1 ts hn
 obtain⟨b1,b2⟩:=E3 ts hn
 obtain⟨KA,rA⟩:=yV (most:=15) a2 (by omega) (by omega) (.inl (by omega))
 obtain⟨KB,rB⟩:=yV (most:=15) b2 (by omega) (by omega) (.inl (by omega))
 obtain⟨la,ea⟩:∃l,l=xy (vN (dA ts) KA) 257:=⟨_,rfl⟩
 obtain⟨lb,eb⟩:∃l,l=xy (vN (dB ts) KB) 1:=⟨_,rfl⟩
 obtain⟨x1,x2,x3,x4,x5⟩:=B9 (m:=0) a2 (by omega) (by omega) (by omega) (by omega) rA ea
 obtain⟨y1,y2,y3,y4,y5⟩:=B9 (m:=0) b2 (by omega) (by omega) (by omega) (by omega) rB eb
 have hall:∀y∈la++lb,0≤y∧y<19:=fun y hy=>by
  rcases Re.1 hy with q|q
  · have:=x2 y q;omega
  · have:=y2 y q;omega
 have c1:(wK (la++lb) (List.replicate 19 0)).length=19:=by rw[Ah,Q4]
 have c2:∀y∈wK (la++lb) (List.replicate 19 0),0≤y∧y≤2147483647:=fun y hy=>by
  have:=Ai (la++lb) _ 0 (by omega) (yG 19) y hy
  rw[uU]at this
  omega
 obtain⟨KC,rC⟩:=yV (most:=7) c2 (by omega) (by omega) (.inr (by omega))
 obtain⟨f1,f2,f3,f4,f5⟩:=xC c2 (by omega) (by omega) (by omega) rC
 have hit:=B5 (la++lb) (List.replicate 19 0) (fun y hy=>(yG 19 y hy).1) (by rw[Q4])
 have ex:∃y∈wK (la++lb) (List.replicate 19 0),0<y:=by
  obtain⟨z,hz⟩:=List.exists_mem_of_ne_nil (la++lb) (fun q=>by
   have:=Rt List.length q
   rw[uU,QS]at this
   omega)
  have h:=hit z hz (hall z hz)
  refine⟨_, ?_,show 0<(wK (la++lb) (List.replicate 19 0)).getD z.toNat 0 by omega⟩
  have zl:z.toNat<(wK (la++lb) (List.replicate 19 0)).length:=by have:=hall z hz;omega
  rw[QP,QR zl]
  exact Q6 zl
 have l0:=f4 ex
 have r16:∀y∈vN (wK (la++lb) (List.replicate 19 0)) KC,0≤y∧y<16:=fun y hy=>by have:=f2 y hy;omega
 refine⟨KA,KB,KC,la,lb,_,⟨yw,hn,t2,rA,rB,ea,eb,hall,rC,rfl,fun y hy=>by have:=f2 y hy;omega,x3,y3, ?_, ?_, ?_, ?_⟩⟩
 · have:=xh (by omega) (by omega) r16 (by omega)
   rw[this,if_pos l0];exact .inl rfl
 · intro y hy
   have h:=hit y hy (hall y hy)
   have g:=f3 y.toNat (by omega)
   exact Ek (by omega) r16 (by have:=hall y hy;omega) g
 · intro t ht
   have o:=t2 t ht
   have zA:∀y∈(List.replicate 286 (0:Int)).set 256 1,0≤y:=fun y hy=>by
    rcases Rl hy with q|q
    · have:=Rh q;omega
    · omega
   have hA:=EU ts _ zA (by rw[Rb,Q4]) t ht o
   have hB:=EX ts (List.replicate 30 0) (fun y hy=>(yG 30 y hy).1) (by rw[Q4]) t ht o
   exact Ja (ts:=ts) o (fun h0=>x4 _ (by have:=hA.1 h0;unfold dA;omega)) (fun h0=>x4 _ (by have:=hA.2 h0;unfold dA;omega)) (fun h0=>y4 _ (by have:=hB h0;unfold dB;omega))
 · exact x4 256 (by omega)
theorem Mh (s:ByteArray) (hs:s.size≤300):∃KA KB KC la lb Lc,Ad (tokens s) KA KB KC la lb Lc:=by
 obtain⟨t1,t2,t3,t4⟩:=yq s hs s.size 0 (by omega) (by omega)
 change (tokens s).length≤s.size-0 at t1
 exact G2 (by omega) (Cb s hs) t2
theorem G3 {ts:List Tok} {KA KB KC:Nat} {la lb Lc:List Int} (ok:Ad ts KA KB KC la lb Lc):17≤(vw ts la lb Lc).length∧(vw ts la lb Lc).length≤30000:=by
 obtain⟨yw,hn,tok,ra,rb,ea,eb,hall,rc,ec,hrow,ca,cb,cc,yk,Il,Bq⟩:=ok
 have a:=BQ yk
 have b:=zC Il
 obtain⟨n,v,_,q1,q2,q3,q4⟩:=Bq.bits
 have lA:(dA ts).length=286:=(E1 ts hn).1
 have lB:(dB ts).length=30:=(E3 ts hn).1
 have l1:la.length≤286:=by rw[ea];unfold xy;rw[Ri,xb,lA];omega
 have l2:lb.length≤30:=by rw[eb];unfold xy;rw[Ri,xb,lB];omega
 have c:(u4 (uX la) 256).length≤15:=by rw[q4,vO];exact q2
 rw[uU]at a
 unfold vw
 simp only[uU,vb,vp,y9,Ri,Ru]
 have:vk.length=19:=rfl
 omega
theorem H5:∀bs:List Nat,(∀b∈bs,b≤1)→JN (vi bs):=by
 have:∀(l:List Nat) (i:Nat) (out:List Nat),(∀b∈l,b≤1)→JN out→JN (wE l i out):=by
  intro l
  induction l with
  |nil=>intro i out _ h;exact h
  |cons x l ih=>intro i out hl h;exact ih (i+1) _ (fun b hb=>hl b (by simp [hb])) (Br (hl x (by simp)) h)
 exact fun bs h=>this bs 0 [] h fun _ q=>by simp at q
theorem w9 (v:Nat):∀m,∀b∈xH v m,b≤1
 |0,b,h=>by simp [xH]at h
 | m + 1, b, h => by
   rw[xH]at h
   rcases uR.1 h with q|q
   · omega
   · exact w9 v m b q
theorem we (v:Nat):∀m i,∀b∈A8 v i m,b≤1
 |0,i,b,h=>by simp [A8]at h
 | m + 1, i, b, h => by
   rw[A8]at h
   rcases uR.1 h with q|q
   · omega
   · exact we v m (i+1) b q
theorem BC (E D:List (Int×Int)) (t:Tok):∀b∈vB E D t,b≤1:=by
 intro b h
 unfold vB u4 vb at h
 split at h
 · exact w9 _ _ b h
 · simp only[Re]at h
   rcases h with h|h|h|h
   · exact w9 _ _ b h
   · exact we _ _ _ b h
   · exact w9 _ _ b h
   · exact we _ _ _ b h
theorem G0 (ts:List Tok) (la lb Lc:List Int):∀b∈vw ts la lb Lc,b≤1:=by
 intro b h
 unfold vw at h
 simp only[Re]at h
 rcases h with h|h|h|h|h|h|h|h
 · exact we _ _ _ b h
 · exact we _ _ _ b h
 · exact we _ _ _ b h
 · exact we _ _ _ b h
 · obtain⟨y,_,hy⟩:=List.mem_flatMap.1 h
   exact we _ _ _ b hy
 · obtain⟨y,_,hy⟩:=List.mem_flatMap.1 h
   exact w9 _ _ b hy
 · obtain⟨y,_,hy⟩:=List.mem_flatMap.1 h
   exact BC _ _ y b hy
 · exact w9 _ _ b h
def ya (t:ByteArray) (p:Nat) (bs:List Nat):Prop:=p+bs.length≤8* t.size∧∀i,i<bs.length→wJ t (p+i)=bs.getD i 0
theorem ya.app {t:ByteArray} {p:Nat} {a b:List Nat} (h:ya t p (a++b)):ya t p a∧ya t (p+a.length) b:=by
 obtain⟨h1,h2⟩:=h
 rw[uU]at h1 h2
 refine⟨⟨by omega,fun i hi=> ?_⟩,⟨by omega,fun i hi=> ?_⟩⟩
 · have:=h2 i (by omega)
   rw[this,QP,QP,Q0 hi]
 · have:=h2 (a.length+i) (by omega)
   rw[ux,this,QP,QP,Q1 (by omega),Nat.add_sub_cancel_left]
theorem Dc (l:List Nat) (h:JN l) (i:Nat):(((bytesOf l)[i]?).map (·.toNat)).getD 0=l.getD i 0:=by
 have e:(bytesOf l)[i]?=(l.map UInt8.ofNat)[i]?:=by
  show(l.map UInt8.ofNat).toArray[i]?=_
  simp
 rw[e,uJ,QP]
 cases hx:l[i]? with
 |none=>rfl
 | some x =>
   have:=h x (uE hx)
   simp [UInt8.toNat_ofNat_of_lt' this]
theorem Iy {x b k j:Nat} (hb:b≤1) (hx:x<2^k):(x|||b* 2^k)/2^j%2=if j=k then b else x/2^j%2:=by
 rw[←Nat.toNat_testBit,←Nat.toNat_testBit,Nat.testBit_or]
 have hb':b=0∨b=1:=by omega
 rcases hb' with rfl|rfl
 · rw[Nat.zero_mul,Nat.zero_testBit,Bool.or_false]
   split
   · rename_i e;subst e
     rw[Nat.testBit_lt_two_pow hx];rfl
   · rfl
 · rw[Nat.one_mul,Nat.testBit_two_pow]
   split
   · rename_i e;subst e;simp
   · rename_i e
     have:decide (k=j)=false:=by simp;omega
     rw[this,Bool.or_false]
structure HC (out:List Nat) (bs:List Nat):Prop where
 len:out.length=(bs.length+7)/8
 bit:∀j,j<bs.length→out.getD (j/8) 0/2^(j%8)%2=bs.getD j 0
 top:bs.length%8≠0→out.getD (bs.length/8) 0<2^(bs.length%8)
theorem HC.step {out bs : List Nat} {b : Nat} (hb : b ≤ 1) (v : HC out bs) : HC (vK out bs.length b) (bs ++ [b]) := by
 obtain⟨len,bit,top⟩:=v
 obtain⟨n,hn⟩:∃n,n=bs.length:=⟨_,rfl⟩
 rw[←hn]at len bit top ⊢
 obtain⟨o,ho⟩:∃o,o=if n%8=0 then out++[0]else out:=⟨_,rfl⟩
 have es:vK out n b=o.set (n/8) (o.getD (n/8) 0|||b* 2^(n%8)):=by rw[ho];rfl
 have ol:n/8<o.length:=by
  rw[ho];split
  · rw[uU,len];simp;omega
  · rw[len];omega
 have og:∀j,j<n→o.getD (j/8) 0=out.getD (j/8) 0:=fun j hj=>by
  rw[ho];split
  · rw[QP,Q0 (by omega),←QP]
  · rfl
 have ox:o.getD (n/8) 0<2^(n%8):=by
  by_cases c:n%8=0
  · rw[ho,if_pos c,QP,Q1 (by omega),c]
    have:n/8-out.length=0:=by omega
    rw[this];simp
  · rw[ho,if_neg c];exact top c
 have gn:∀m,(vK out n b).getD m 0=if m=n/8 then o.getD (n/8) 0|||b* 2^(n%8)else o.getD m 0:=fun m=>by
  rw[es]
  by_cases e:m=n/8
  · subst e
    rw[if_pos rfl,QP,Q5,if_pos rfl,if_pos ol];rfl
  · rw[if_neg e,getD_set_ne (fun q=>e q.symm)]
 have bl:(bs++[b]).length=n+1:=by simp [hn]
 refine⟨by rw[bl,Bs len],fun j hj=> ?_,fun hc=> ?_⟩
 · rw [bl] at hj
   rw[gn]
   by_cases e:j=n
   · subst e
     rw[if_pos rfl,Iy hb ox,if_pos rfl,QP,hn,Q1 (uy _)];simp
   · have hjn:j<n:=by omega
     have gb:(bs++[b]).getD j 0=bs.getD j 0:=by rw[QP,Q0 (by omega),←QP]
     rw[gb,←bit j hjn,←og j hjn]
     split
     · rename_i e2
       rw[Iy hb ox,if_neg (by omega),e2]
     · rfl
 · rw[bl]at hc ⊢
   have e8:(n+1)/8=n/8:=by omega
   have m8:(n+1)%8=n%8+1:=by omega
   rw[gn,e8,if_pos rfl,m8,Jc ox,Nat.pow_succ]
   have:b* 2^(n%8)≤1* 2^(n%8):=uD _ hb
   omega
theorem H6:∀bs:List Nat,(∀b∈bs,b≤1)→HC (vi bs) bs:=by
 have key:∀(q p:List Nat) (out:List Nat),(∀b∈q,b≤1)→HC out p→HC (wE q p.length out) (p++q):=by
  intro q
  induction q with
  |nil=>intro p out _ h;simpa [wE]using h
  | cons x q ih =>
    intro p out hb h
    have:=ih (p++[x]) (vK out p.length x) (fun b q=>hb b (by simp [q])) (h.step (hb x (by simp)))
    rw[uU,Q2]at this
    exact this
 intro bs hb
 exact key bs [] [] hb ⟨rfl,fun j hj=>by simp at hj,fun h=>by simp at h⟩
theorem ze (bs:List Nat) (hb:∀b∈bs,b≤1):ya (bytesOf (vi bs)) 0 bs:=by
 have v:=H6 bs hb
 have y:=H5 bs hb
 refine⟨by rw[vR,v.len];omega,fun i hi=> ?_⟩
 rw[uF]
 unfold wJ
 rw[Dc _ y]
 exact v.bit i hi
theorem HA {t:ByteArray} {p:Nat} {v:Nat}:∀(n:Nat),(∀i,i<n→wJ t (p+i)=v/2^i%2)→u1 t p n=v%2^n
 |0,h=>by simp [u1,Nat.mod_one]
 | n + 1, h => by
   rw[u1,HA n fun i hi=>h i (by omega),h n (by omega),Nat.pow_succ,Nat.mod_mul,Nat.mul_comm]
theorem FM (v:Nat):∀m i j,j<m→(A8 v i m).getD j 0=v/2^(i+j)%2
 |0,i,j,h=>by omega
 |m+1,i,0,h=>rfl
 | m + 1, i, j + 1, h => by
   show(A8 v (i+1) m).getD j 0=_
   rw[FM v m (i+1) j (by omega)]
   congr 3;omega
theorem ya.put {t:ByteArray} {p v n:Nat} (h:ya t p (vb v n)) (hv:v<2^n):u1 t p n=v∧p+n≤8* t.size:=by
 obtain⟨h1,h2⟩:=h
 unfold vb at h1 h2
 rw[vp]at h1 h2
 refine⟨?_,h1⟩
 rw[HA n fun i hi=>by rw[h2 i hi,FM v n 0 i hi,uF],Nat.mod_eq_of_lt hv]
theorem F3 (n:Nat):∀(q p:List Int),∃r,syms (p++q) n=syms p n++r
 |[],p=>⟨[],by simp⟩
 | x :: q, p => by
   obtain⟨r,hr⟩:=F3 n q (p++[x])
   rw[Q2,zy]at hr
   exact⟨_,by rw[show p++x::q=p++([x]++q)by simp,hr,Q2]⟩
theorem Hv {l:List Int} {s n:Nat} (hs:s<l.length) (hn:1≤n) (e:l.getD s 0=(n:Int)):(syms l n)[wx (l.take s) n]?=some (s:Int):=by
 have e2:l.take (s+1)=l.take s++[l.getD s 0]:=by
  rw[List.take_add_one,QR hs,QP,QR hs];rfl
 obtain⟨r,hr⟩:=F3 n (l.drop (s+1)) (l.take (s+1))
 rw[List.take_append_drop,e2,zy,if_pos ⟨by omega,e⟩]at hr
 have ls:=za (l.take s) n
 have lt:(l.take s).length=s:=by rw[Ri];omega
 rw[hr,Q2,Q1 (by omega),ls,Nat.sub_self,lt];rfl
theorem Bn (l:List Int) (n:Nat):∀m,(u7 l n+wx l n)* 2^(m+1)≤u7 l (n+m+1)
 |0=>by rw[u7];simp
 | m + 1 => by
   have ih:=Bn l n m
   rw[show n+(m+1)+1=(n+m+1)+1 by omega,u7,Int.pow_succ,←Int.mul_assoc]
   omega
theorem J7 {l:List Int} {n m:Nat} {c:Nat} (hc:u7 l (n+m+1)≤(c:Int)):wZ l n ((c/2^(m+1):Nat):Int)=none:=by
 have g:=Bn l n m
 have h1:u7 l n+wx l n≤((c/2^(m+1):Nat):Int):=by
  have p2:((2^(m+1):Nat):Int)=(2:Int)^(m+1):=by push_cast;rfl
  have:(u7 l n+wx l n)* ((2^(m+1):Nat):Int)≤(c:Int):=by rw[p2];omega
  rw[Int.natCast_ediv]
  exact(Int.le_ediv_iff_mul_le (by have:=Nat.pow_pos (n:=m+1) (show 0<2 by omega);omega)).2 this
 unfold wZ
 split
 · rw[Q3]
   rw[za];omega
 · rfl
theorem FW {t : ByteArray} {l : List Int} {s N c : Nat} (hs : s < l.length) (hN : 1 ≤ N) (e : l.getD s 0 = (N : Int)) (hc : (c : Int) = u7 l N + wx (l.take s) N) : ∀ (m n k p : Nat), n + m = N → m + 1 ≤ k → ya t p (xH c (m + 1)) → yn t l k n (c / 2 ^ (m + 1)) p = some ((s : Int), p + (m + 1))
 |m,n,0,p,hn,hk,hb=>by omega
 | m, n, k + 1, p, hn, hk, hb => by
   have hb1:ya t p ([c/2^m%2]++xH c m):=hb
   obtain⟨b1,b2⟩:=hb1.app
   have v1:u1 t p 1=c/2^m%2:=by
    have:=b1.2 0 (by simp)
    simp only[Nat.add_zero,List.getD_cons_zero]at this
    simp [u1,this]
   have pl:p+1≤8* t.size:=b1.1
   have vv:c/2^(m+1)* 2+c/2^m%2=c/2^m:=by
    rw[Nat.pow_succ,←Nat.div_div_eq_div_mul];omega
   rw[yn,if_pos pl,v1,vv]
   cases m with
   | zero =>
     have:wZ l n ((c/2^0:Nat):Int)=some (s:Int):=by
      have hn':n=N:=by omega
      subst hn'
      unfold wZ
      rw[Nat.pow_zero,Nat.div_one,if_pos (by omega)]
      have:((c:Int)-u7 l n).toNat=wx (l.take s) n:=by omega
      rw[this]
      exact Hv hs hN e
     rw[this]
   | succ m =>
     have:wZ l n ((c/2^(m+1):Nat):Int)=none:=J7 (by rw[show n+m+1=N by omega];omega)
     rw[this]
     have r:=FW hs hN e hc m (n+1) k (p+1) (by omega) (by omega) b2
     rw[r]
     simp only[um,uq,true_and];omega
theorem JG {t:ByteArray} {l:List Int} (hl:0≤vm l 15) (hr:∀y∈l,0≤y∧y<16) {s p:Nat} (hs:s<l.length) (h1:1≤l.getD s 0) (hb:ya t p (u4 (uX l) s)):yn t l 15 1 0 p=some ((s:Int),p+(u4 (uX l) s).length):=by
 obtain⟨n,v,g,n1,n2,n3,n4⟩:=(Ek hl hr hs h1).bits
 have g2:(uX l)[s]?=some (yd l s):=by
  unfold uX
  rw[uJ,Rj hs];rfl
 rw[g2]at g
 have g3:=uh g
 unfold yd at g3
 rw[if_pos h1]at g3
 have e1:l.getD s 0=(n:Int):=Rt Prod.fst g3
 have e2:u7 l (l.getD s 0).toNat+wx (l.take s) (l.getD s 0).toNat=(v:Int):=Rt Prod.snd g3
 have tn:((n:Nat):Int).toNat=n:=by omega
 rw[e1,tn]at e2
 rw[n4]at hb ⊢
 rw[vO]
 obtain⟨m,rfl⟩:∃m,n=m+1:=⟨n-1,by omega⟩
 have:=FW hs n1 e1 e2.symm m 1 15 p (by omega) (by omega) hb
 rw[Nat.div_eq_of_lt n3]at this
 exact this
theorem Ej {l:List Int} {s:Nat} (o:Ac (uX l) s):s<l.length∧1≤l.getD s 0:=by
 have hs:s<l.length:=by have:=o.lt;rwa [yC]at this
 obtain⟨n,v,g,n1,_⟩:=o
 have g2:(uX l)[s]?=some (yd l s):=by
  unfold uX
  rw[uJ,Rj hs];rfl
 rw[g2]at g
 have g3:=uh g
 unfold yd at g3
 refine⟨hs, ?_⟩
 apply Ra
 intro c
 rw[if_neg c]at g3
 have:=Rt Prod.fst g3
 simp at this
 omega
theorem De {most:Int} (d:Nat):∀(n:Nat) (out:List Nat),(out.length:Int)+n≤most→Bl most d n out=.ok (HQ d n out)
 |0,out,h=>rfl
 | n + 1, out, h => by
   rw[Bl,if_neg (by omega),HQ]
   exact De d n _ (by simp;omega)
structure AM (l:List Int):Prop where
 left:0≤vm l 15
 Nv:∀y∈l,0≤y∧y<16
theorem AM.sym {l:List Int} (b:AM l) {t:ByteArray} {s p:Nat} (o:Ac (uX l) s) (hb:ya t p (u4 (uX l) s)):yn t l 15 1 0 p=some ((s:Int),p+(u4 (uX l) s).length):=
 JG b.left b.Nv (Ej o).1 (Ej o).2 hb
theorem E7 (o:List Nat) (t:Tok):o.length≤(vC o t).length:=by
 unfold vC
 split
 · simp
 · rw[BI];omega
theorem E8:∀(ts:List Tok) (o:List Nat),o.length≤(wk ts o).length
 |[],o=>uy _
 |t::r,o=>uS (E7 o t) (E8 r _)
theorem zL {t : ByteArray} {la lb : List Int} (bA : AM la) (bB : AM lb) (o256 : Ac (uX la) 256) {most : Int} : ∀ (ts : List Tok) (k p : Nat) (out : List Nat), ya t p (vP (uX la) (uX lb) ts ++ u4 (uX la) 256) → (∀ x ∈ ts, F8 (uX la) (uX lb) x) → vt out.length ts = true → ((wk ts out).length : Int) ≤ most → ts.length < k →
 wQ t most la lb k p out=.ok (p+(vP (uX la) (uX lb) ts++u4 (uX la) 256).length,wk ts out)
 |ts,0,p,out,hb,ok,hm,hl,hk=>by omega
 | [], k + 1, p, out, hb, ok, hm, hl, hk => by
   have hb':ya t p (u4 (uX la) 256):=hb
   have s:=bA.sym o256 hb'
   rw[wQ,s]
   simp only
   rw[if_neg (by omega),if_pos (by omega)]
   rfl
 | x :: r, k + 1, p, out, hb, ok, hm, hl, hk => by
   have ox:=ok x (by simp)
   have e:vP (uX la) (uX lb) (x::r)++u4 (uX la) 256=vB (uX la) (uX lb) x++(vP (uX la) (uX lb) r++u4 (uX la) 256):=by
    unfold vP;rw[QW,Q2]
   rw[e]at hb ⊢
   obtain⟨h1,h2⟩:=hb.app
   have gl:=E8 r (vC out x)
   have hl':((wk r (vC out x)).length:Int)≤most:=hl
   rw[vt]at hm
   cases hst:vS out.length x with
   |none=>rw[hst]at hm;cases hm
   | some s' =>
     rw[hst]at hm
     simp only at hm
     by_cases k8:8192<s'
     · rw[if_pos k8]at hm;cases hm
     rw[if_neg k8]at hm
     unfold vS at hst
     have rec_:s'=((vC out x).length:Nat)→wQ t most la lb k (p+(vB (uX la) (uX lb) x).length) (vC out x)=.ok (p+(vB (uX la) (uX lb) x++(vP (uX la) (uX lb) r++u4 (uX la) 256)).length,wk r (vC out x)):=fun es=>by
      have:=zL bA bB o256 r k _ (vC out x) h2 (fun y hy=>ok y (by simp [hy])) (by rw[←es];exact hm) hl' (by simp at hk;omega)
      rw[this, @uU _ (vB _ _ _),ux]
     rw[wk]
     by_cases c0:x.len=0
     · rw[if_pos c0]at hst
       by_cases c:x.lit<0∨255<x.lit∨x.vG≠0
       · rw[if_pos c]at hst;cases hst
       rw[if_neg c]at hst
       obtain rfl:=uh hst
       have tb:vB (uX la) (uX lb) x=u4 (uX la) x.lit.toNat:=by rw[vB,if_pos c0]
       rcases ox with ⟨_,q2,q3⟩|⟨q,_⟩
       · have es:vC out x=out++[x.lit.toNat]:=by unfold vC;rw[if_pos c0]
         rw[es]at gl hl' rec_ ⊢
         rw[uU,List.length_singleton]at gl rec_
         rw[tb]at h1 rec_ ⊢
         have s:=bA.sym q3 h1
         rw[wQ,s]
         simp only
         have tl:((x.lit.toNat:Nat):Int)<256:=by omega
         rw[if_pos tl,if_neg (by omega)]
         have tn:(((x.lit.toNat:Nat):Int)).toNat=x.lit.toNat:=by omega
         rw[tn]
         exact rec_ (by push_cast;rfl)
       · omega
     · rw[if_neg c0]at hst
       by_cases c:x.len<3∨258<x.len∨x.vG<1∨32768<x.vG∨(out.length:Int)<x.vG∨x.lit≠0
       · rw[if_pos c]at hst;cases hst
       rw[if_neg c]at hst
       obtain rfl:=uh hst
       obtain⟨L,hL⟩:∃y:Nat,x.len=y:=QX (by omega)
       obtain⟨D,hD⟩:∃y:Nat,x.vG=y:=QX (by omega)
       have Lt:x.len.toNat=L:=by omega
       have Dt:x.vG.toNat=D:=by omega
       rcases ox with ⟨q,_⟩|⟨_,_,_,_,q5,q6⟩
       · exact absurd q c0
       rw[Lt]at q5
       rw[Dt]at q6
       have es:vC out x=HQ D L out:=by unfold vC;rw[if_neg c0,Lt,Dt]
       have cl:=BI D L out
       have tb:vB (uX la) (uX lb) x=u4 (uX la) (wV L)++(vb (zQ L) (yU L)++(u4 (uX lb) (xp D)++vb (Ao D) (zF D))):=by rw[vB,if_neg c0,Lt,Dt]
       rw[es]at gl hl' rec_ ⊢
       rw[tb]at h1 rec_ ⊢
       obtain⟨i1,i2⟩:=h1.app
       obtain⟨i3,i4⟩:=i2.app
       obtain⟨i5,i6⟩:=i4.app
       have s1:=bA.sym q5 i1
       have lb_:=Ee (k:=L) (by omega) (by omega)
       have db_:=D6 (k:=D) (by omega) (by omega)
       have ls:=xE (k:=L) (by omega) (by omega)
       have ds:=xB (k:=D) (by omega) (by omega)
       obtain⟨a,b,hab⟩:=zP ls.1 ls.2.1
       obtain⟨a',b',hab'⟩:=yR ds.1
       have ea:vg (lenOf (wV L))=a:=by rw[hab];rfl
       have eb:yU L=b:=by unfold yU;rw[hab];rfl
       have ea':vg (vx (xp D))=a':=by rw[hab'];rfl
       have eb':zF D=b':=by unfold zF;rw[hab'];rfl
       have v1:=i3.put lb_.2
       have v2:=i6.put db_.2
       have pl:∀v n,(vb v n).length=n:=fun v n=>by unfold vb;exact vp v n 0
       rw[pl]at i5 v2
       have s2:=bB.sym q6 i5
       have eL:a+zQ L=L:=by unfold zQ;rw[ea];omega
       have eD:a'+Ao D=D:=by unfold Ao;rw[ea'];omega
       rw[wQ,s1]
       simp only
       rw[if_neg (by omega),if_neg (by omega)]
       have tn:(((wV L:Nat):Int)).toNat=wV L:=by omega
       have tn2:(((xp D:Nat):Int)).toNat=xp D:=by omega
       have cp:Bj t most lb (wV L) (p+(u4 (uX la) (wV L)).length) out=.ok (p+(u4 (uX la) (wV L)++(vb (zQ L) (yU L)++(u4 (uX lb) (xp D)++vb (Ao D) (zF D)))).length,HQ D L out):=by
        unfold Bj
        rw[hab]
        simp only
        rw[←eb,if_pos v1.2,s2]
        simp only
        rw[tn2,hab']
        simp only
        rw[←eb',v2.1,v1.1,eL,eD,if_pos ⟨v2.2,by omega⟩,De D L out (by omega)]
        simp only[uU,pl,Except.ok.injEq,uq,and_true]
        omega
       rw[tn,cp]
       simp only
       exact rec_ (by rw[cl,hL];push_cast;rfl)
theorem AM.I9 {C l:List Int} {K k:Nat} (hC:∀y∈C,0≤y∧y≤2147483647) (h2:2≤C.length) (hl:C.length≤288) (hk:k≤C.length) (hk1:1≤k) (r:wC 15 K (wo C)) (e:l=xy (vN C K) k):AM l∧((∃y∈C,0<y)→vn l=0)∧((∀y∈C,¬0<y)→∀y∈l,y=0):=by
 obtain⟨a,b,c,d,l0⟩:=B9 (m:=0) hC h2 hl hk hk1 r e
 obtain⟨f1,f2,f3,f4,f5⟩:=xC hC h2 hl (by omega) r
 refine⟨⟨l0,b⟩,fun ex=> ?_,fun nn y hy=> ?_⟩
 · rw[xh (by omega) (by omega) b l0,if_pos]
   rw[e,BJ (fun y hy=>(f2 y hy).1) k 15]
   exact f4 ex
 · rw[e,f5 nn]at hy
   exact Rh (List.mem_of_mem_take hy)
theorem Bd:∀(l:List Int) (a:Int),(∀y∈l,y=0)→JF l a=a
 |[],a,h=>rfl
 | y :: l, a, h => by
   have:=h y (by simp)
   subst this
   rw[JF]
   first
    |exact Bd l a fun z hz=>h z (by simp [hz])
    |(simp;exact Bd l a fun z hz=>h z (by simp [hz]))
theorem Av {t:ByteArray} {Lc:List Int} (bk:AM Lc) (many:Nat):∀(q acc:List Int) (f p:Nat),ya t p (xZ (uX Lc) q)→(∀y∈q,Ac (uX Lc) y.toNat)→(∀y∈q,0≤y∧y<16)→acc.length+q.length=many→q.length<f→vX t Lc many f acc p=some (acc++q,p+(xZ (uX Lc) q).length)
 |q,acc,0,p,hb,ok,hr,hm,hf=>by omega
 | [], acc, f + 1, p, hb, ok, hr, hm, hf => by
   simp at hm
   rw[vX,if_neg (by omega),if_neg (by omega)]
   simp [xZ]
 | y :: q, acc, f + 1, p, hb, ok, hr, hm, hf => by
   have e:xZ (uX Lc) (y::q)=u4 (uX Lc) y.toNat++xZ (uX Lc) q:=by unfold xZ;rw[QW]
   rw[e]at hb ⊢
   obtain⟨h1,h2⟩:=hb.app
   have s:=bk.sym (ok y (by simp)) h1
   have yr:=hr y (by simp)
   have ty:((y.toNat:Nat):Int)=y:=by omega
   simp only[QQ]at hm hf
   rw[vX,if_pos (by omega),s]
   simp only
   rw[ty]
   have ag:yy t y acc (p+(u4 (uX Lc) y.toNat).length)=some (y,1,p+(u4 (uX Lc) y.toNat).length):=by
    unfold yy
    rw[if_neg (by omega),if_neg (by omega),if_neg (by omega)]
   rw[ag]
   simp only
   have r:=Av bk many q (acc++[y]) f _ h2 (fun z hz=>ok z (by simp [hz])) (fun z hz=>hr z (by simp [hz])) (by simp;omega) (by omega)
   have e1:List.replicate 1 y=[y]:=rfl
   rw[e1,r,uU,←ux,Q2];rfl
def C8 (L:List Int):List Int→List Int→List Int
 |[],o=>o
 |s::r,o=>C8 L r (o.set s.toNat (L.getD s.toNat 0))
theorem FB {t:ByteArray} {L:List Int} (hr:∀y∈L,0≤y∧y<8):∀(os:List Int) (p:Nat) (o:List Int),ya t p (yJ (os.map fun s=>L.getD s.toNat 0))→(∀s∈os,s.toNat<L.length)→En t os p o=C8 L os o
 |[],p,o,hb,hs=>rfl
 | s :: os, p, o, hb, hs => by
   have e:yJ ((s::os).map fun s=>L.getD s.toNat 0)=vb (L.getD s.toNat 0).toNat 3++yJ (os.map fun s=>L.getD s.toNat 0):=by unfold yJ;rw[QY,QW]
   rw[e]at hb
   obtain⟨h1,h2⟩:=hb.app
   have hl:=hs s (by simp)
   have yr:0≤L.getD s.toNat 0∧L.getD s.toNat 0<8:=hr _ (by rw[QP,QR hl];exact Q6 hl)
   have v:=h1.put (by omega)
   have pl:(vb (L.getD s.toNat 0).toNat 3).length=3:=by unfold vb;exact vp _ _ _
   rw[pl]at h2
   rw[En,C8,v.1,FB hr os _ _ h2 (fun z hz=>hs z (by simp [hz]))]
   congr 2;omega
theorem Fz (L:List Int):∀(os o:List Int),(C8 L os o).length=o.length
 |[],o=>rfl
 |s::os,o=>by rw[C8,Fz L os,Rb]
theorem Fy (L : List Int) : ∀ (os o : List Int) (j : Nat), j < o.length → (C8 L os o).getD j 0 = if (∃ s ∈ os, s.toNat = j) then L.getD j 0 else o.getD j 0
 |[],o,j,hj=>by simp [C8]
 | s :: os, o, j, hj => by
   rw[C8,Fy L os _ j (by rw[Rb];exact hj)]
   by_cases c:∃s∈os,s.toNat=j
   · rw[if_pos c,if_pos (by obtain⟨u,hu,e⟩:=c;exact⟨u,by simp [hu],e⟩)]
   · rw[if_neg c]
     by_cases e:s.toNat=j
     · subst e
       rw[if_pos ⟨s,by simp,rfl⟩,QP,Q5,if_pos rfl,if_pos hj];rfl
     · rw[getD_set_ne e,if_neg]
       rintro ⟨u,hu,e2⟩
       rcases uR.1 hu with q|q
       · subst q;exact e e2
       · exact c ⟨u,q,e2⟩
theorem H4:∀j:Nat,j<19→∃i:Nat,i<19∧vk[i]?=some (j:Int):=by
 intro j hj
 have:∀j:Nat,j<19→∃i:Nat,i<19∧vk[i]?=some (j:Int):=by decide
 exact this j hj
theorem Jd {L : List Int} (hl : L.length = 19) (h0 : ∀ y ∈ L, 0 ≤ y) : C8 L (vk.take (vz (vk.map fun s => L.getD s.toNat 0) 4 19)) (List.replicate 19 0) = L := by
 apply List.ext_getElem?
 intro j
 have fl:=Fz L (vk.take (vz (vk.map fun s=>L.getD s.toNat 0) 4 19)) (List.replicate 19 0)
 rw[Q4]at fl
 by_cases hj:j<19
 · have g:=Fy L (vk.take (vz (vk.map fun s=>L.getD s.toNat 0) 4 19)) (List.replicate 19 0) j (by simpa using hj)
   rw[QR (by omega),QR (by omega)]
   rw[QP,QR (by omega)]at g
   congr 1
   have g':(C8 L (vk.take (vz (vk.map fun s=>L.getD s.toNat 0) 4 19)) (List.replicate 19 0))[j]'(by omega)=_:=g
   rw[g']
   have e:L.getD j 0=L[j]'(by omega):=by rw[QP,QR (by omega)];rfl
   split
   · exact e
   · rename_i c
     rw[zr hj]
     obtain⟨i,hi,oi⟩:=H4 j hj
     have hk:vz (vk.map fun s=>L.getD s.toNat 0) 4 19≤i:=by
      apply Ra
      intro q
      refine c ⟨(j:Int), ?_,by omega⟩
      refine uE (i:=i) ?_
      rw[uT,if_pos (by omega),oi]
     have z:=xO (vk.map fun s=>L.getD s.toNat 0) 4 19 i hk hi
     have tj:((j:Nat):Int).toNat=j:=by omega
     rw[QP,uJ,oi]at z
     simp only[QU,Option.getD_some,tj]at z
     have nn:=h0 _ (Q6 (l:=L) (n:=j) (by omega))
     omega
 · rw[Q3 (by omega),Q3 (by omega)]
theorem GZ {t : ByteArray} {ts : List Tok} {KA KB KC : Nat} {la lb Lc : List Int} (ok : Ad ts KA KB KC la lb Lc) (hb : ya t 0 (vw ts la lb Lc)) (hm : vt 0 ts = true) {most : Int} (hl : ((wk ts []).length : Int) ≤ most) : HS t most 3 [] = .ok ((vw ts la lb Lc).length, wk ts []) ∧ u1 t 0 1 = 1 ∧ u1 t 1 2 = 2 ∧ 3 ≤ 8 * t.size := by
 obtain⟨yw,hn,tok,ra,rb,ea,eb,hall,rc,ec,hrow,ca,cb,cc,yk,Il,Bq⟩:=ok
 obtain⟨a1,a2,a3⟩:=E1 ts hn
 obtain⟨b1,b2⟩:=E3 ts hn
 obtain⟨x1,x2,x3,x4,x5⟩:=B9 (m:=0) a2 (by omega) (by omega) (by omega) (by omega) ra ea
 obtain⟨y1,y2,y3,y4,y5⟩:=B9 (m:=0) b2 (by omega) (by omega) (by omega) (by omega) rb eb
 obtain⟨bkA,chA,_⟩:=AM.I9 a2 (by omega) (by omega) (by omega) (by omega) ra ea
 obtain⟨bkB,chB,zB⟩:=AM.I9 b2 (by omega) (by omega) (by omega) (by omega) rb eb
 have c1:(wK (la++lb) (List.replicate 19 0)).length=19:=by rw[Ah,Q4]
 have c2:∀y∈wK (la++lb) (List.replicate 19 0),0≤y∧y≤2147483647:=fun y hy=>by
  have:=Ai (la++lb) _ 0 (by omega) (yG 19) y hy
  rw[uU]at this
  omega
 obtain⟨f1,f2,f3,f4,f5⟩:=xC c2 (by omega) (by omega) (by omega) rc
 rw[←ec]at f1 f2 f3 f4 f5
 have lLc:Lc.length=19:=by omega
 have hit:=B5 (la++lb) (List.replicate 19 0) (fun y hy=>(yG 19 y hy).1) (by rw[Q4])
 have exC:∃y∈wK (la++lb) (List.replicate 19 0),0<y:=by
  obtain⟨z,hz⟩:=List.exists_mem_of_ne_nil (la++lb) (fun q=>by
   have:=Rt List.length q
   rw[uU,QS]at this
   omega)
  have h:=hit z hz (hall z hz)
  refine⟨_, ?_,show 0<(wK (la++lb) (List.replicate 19 0)).getD z.toNat 0 by omega⟩
  have zl:z.toNat<(wK (la++lb) (List.replicate 19 0)).length:=by have:=hall z hz;omega
  rw[QP,QR zl]
  exact Q6 zl
 have l0:=f4 exC
 have r16:∀y∈Lc,0≤y∧y<16:=fun y hy=>by have:=f2 y hy;omega
 have bkC:AM Lc:=⟨by omega,r16⟩
 have chC:vn Lc=0:=by rw[xh (by omega) (by omega) r16 (by omega),if_pos l0]
 have exA:∃y∈dA ts,0<y:=by
  have zl:256<(dA ts).length:=by omega
  refine⟨(dA ts).getD 256 0, ?_,by omega⟩
  rw[QP,QR zl]
  exact Q6 zl
 have chA':=chA exA
 have chB':¬(vn lb≠0∧wY lb=false):=by
  rintro ⟨q1,q2⟩
  by_cases c:∃y∈dB ts,0<y
  · exact q1 (chB c)
  · have:=Bd lb 0 (zB fun y hy q=>c ⟨y,hy,q⟩)
    unfold wY at q2
    rw[this]at q2
    simp at q2
 obtain⟨R,hR⟩:∃R,R=vk.map (fun o=>Lc.getD o.toNat 0):=⟨_,rfl⟩
 obtain⟨k,hk⟩:∃k,k=vz R 4 19:=⟨_,rfl⟩
 have uk:=wh R 4 19
 rw[←hk]at uk
 have eD:vw ts la lb Lc=vb 5 3++(vb (la.length-257) 5++(vb (lb.length-1) 5++(vb (k-4) 4++(yJ (R.take k)++(xZ (uX Lc) (la++lb)++(vP (uX la) (uX lb) ts++u4 (uX la) 256)))))):=by rw[hk,hR];rfl
 rw[eD]at hb ⊢
 have pl:∀v n,(vb v n).length=n:=fun v n=>by unfold vb;exact vp v n 0
 obtain⟨h1,g1⟩:=hb.app
 rw[pl]at g1
 obtain⟨h2,g2⟩:=g1.app
 rw[pl]at g2
 obtain⟨h3,g3⟩:=g2.app
 rw[pl]at g3
 obtain⟨h4,g4⟩:=g3.app
 rw[pl]at g4
 obtain⟨h5,g5⟩:=g4.app
 obtain⟨h6,g6⟩:=g5.app
 have v2:=h2.put (by omega)
 have v3:=h3.put (by omega)
 have v4:=h4.put (by omega)
 have rl:(yJ (R.take k)).length=3* k:=by rw[y9,Ri,hR,Ru];show 3* min k 19=_;omega
 rw[rl]at g5 g6 h6
 have rb5:yJ (R.take k)=yJ ((vk.take k).map fun s=>Lc.getD s.toNat 0):=by rw[hR,List.map_take]
 have h5':=h5
 rw[rb5]at h5'
 have own:=FB hrow (vk.take k) _ (List.replicate 19 0) h5' (fun s hs=>by have:=DB s (List.mem_of_mem_take hs);omega)
 have back:=Jd lLc (fun y hy=>(hrow y hy).1)
 rw[←hR,←hk]at back
 rw[back]at own
 have okr:∀y∈la++lb,0≤y∧y<16:=fun y hy=>by
  rcases Re.1 hy with q|q
  · exact x2 y q
  · exact y2 y q
 have h5l:=h5.1
 rw[rl]at h5l
 have h6l:=h6.1
 have g6l:=g6.1
 have ll:(la++lb).length=la.length+lb.length:=uU
 have all:=Av bkC (la.length+lb.length) (la++lb) [] (8* t.size+1) _ h6 yk okr (by simp) (by
  have:∀D:List Int,(∀y∈D,Ac (uX Lc) y.toNat)→D.length≤(xZ (uX Lc) D).length:=by
   intro D
   induction D with
   |nil=>intro _;simp
   | cons y D ih =>
     intro h
     have:=ih fun z hz=>h z (by simp [hz])
     obtain⟨n,v,_,q1,q2,q3,q4⟩:=(h y (by simp)).bits
     unfold xZ at *
     rw[QW,uU,q4,vO,QQ];omega
  have:=this _ yk
  omega)
 have cod:=zL bkA bkB Bq ts (8* t.size+1) _ [] g6 Il hm hl (by
  have:∀T:List Tok,(∀x∈T,F8 (uX la) (uX lb) x)→T.length≤(vP (uX la) (uX lb) T).length:=by
   intro T
   induction T with
   |nil=>intro _;simp
   | cons x T ih =>
     intro h
     have:=ih fun z hz=>h z (by simp [hz])
     have o:=h x (by simp)
     have one:1≤(vB (uX la) (uX lb) x).length:=by
      rcases o with ⟨h1,h2,h3⟩|⟨h1,h2,h3,h4,h5,h6⟩
      · obtain⟨n,v,_,q1,q2,q3,q4⟩:=h3.bits
        rw[vB,if_pos h1,q4,vO];omega
      · obtain⟨n,v,_,q1,q2,q3,q4⟩:=h5.bits
        rw[vB,if_neg (by omega),q4,uU,vO];omega
     unfold vP at *
     rw[QW,uU,QQ];omega
  have:=this _ Il
  rw[uU]at g6l
  omega)
 have v1:=h1.put (by omega)
 simp only[uF,Nat.reduceAdd,List.nil_append]at v1 v2 v3 v4 own all cod h5l
 have n1:u1 t 3 5+257=la.length:=by rw[v2.1];omega
 have n2:u1 t 8 5+1=lb.length:=by rw[v3.1];omega
 have n3:u1 t 13 4+4=k:=by rw[v4.1];omega
 have lens:xU t (la.length+lb.length) 13=some (la++lb,17+3* k+(xZ (uX Lc) (la++lb)).length):=by
  unfold xU
  simp only[Nat.reduceAdd,n3]
  rw[if_pos (by omega),if_pos (by omega),own,if_pos chC,all]
 have tk:(la++lb).take la.length=la:=List.take_left' rfl
 have dr:(la++lb).drop la.length=lb:=List.drop_left' rfl
 have g256:la.getD 256 0≠0:=by have:=(Ej Bq).2;omega
 refine⟨?_, ?_, ?_,by omega⟩
 · unfold HS
   simp only[Nat.reduceAdd,n1,n2]
   rw[if_pos (by omega),if_neg (by omega),lens]
   simp only[tk,dr]
   rw[if_neg (by rintro (q|q|q);exact q chA';exact g256 q;exact chB' q),cod]
   simp only[uU,pl,rl,Except.ok.injEq,uq,and_true]
   omega
 · have b0:=h1.2 0 (by rw[pl];omega)
   have e0:(vb 5 3).getD 0 0=1:=by decide
   rw[e0]at b0
   simp [u1,b0]
 · have b1:=h1.2 1 (by rw[pl];omega)
   have b2:=h1.2 2 (by rw[pl];omega)
   have e1:(vb 5 3).getD 1 0=0:=by decide
   have e2:(vb 5 3).getD 2 0=1:=by decide
   rw[e1]at b1
   rw[e2]at b2
   simp only[uF]at b1 b2
   simp [u1,b1,b2]
theorem Fk {s:ByteArray} (hs:s.size≤300) {KA KB KC:Nat} {la lb Lc:List Int} (ok:Ad (tokens s) KA KB KC la lb Lc) {most:Int} (hm1:(s.size:Int)≤most) (hm2:most≤8192):wv (bytesOf (vi (vw (tokens s) la lb Lc))) most=.ok (preB s s.size,(bytesOf (vi (vw (tokens s) la lb Lc))).size):=by
 obtain⟨t1,t2,t3,t4⟩:=yq s hs s.size 0 (by omega) (by omega)
 have t3':vt 0 (tokens s)=true:=t3
 have t4':wk (tokens s) []=preB s s.size:=t4
 have hb:=ze (vw (tokens s) la lb Lc) (G0 _ _ _ _)
 obtain⟨d,v1,v2,sz⟩:=GZ ok hb t3' (most:=most) (by rw[t4',xi];omega)
 rw[t4']at d
 have psz:(bytesOf (vi (vw (tokens s) la lb Lc))).size=((vw (tokens s) la lb Lc).length+7)/8:=by rw[vR,wU]
 generalize bytesOf (vi (vw (tokens s) la lb Lc))=T at *
 unfold wv
 rw[if_neg (by omega)]
 have bl:wW T most 0 []=.ok (true,(vw (tokens s) la lb Lc).length,preB s s.size):=by
  unfold wW
  simp only[uF]
  rw[if_pos sz,v2]
  simp only[Nat.reduceEqDiff,uV,if_true,reduceIte]
  rw[d]
  simp [v1]
 rw[xz,bl]
 simp only[if_true,psz]
theorem CF (s:ByteArray):bytesOf (preB s s.size)=s:=by
 have:preB s s.size=NH s:=by
  apply List.ext_getElem?
  intro i
  by_cases h:i<s.size
  · have g:=Dc (NH s) (NI s) i
    rw[Bi]at g
    have l1:=Hw s
    rw[QR (by rw[xi];exact h),QR (by omega)]
    congr 1
    have a:=FL s h
    rw[QP,QR (by rw[xi];exact h)]at a
    rw[QP,QR (by omega)]at g
    exact a.trans g
  · rw[Q3 (by rw[xi];omega),Q3 (by rw[Hw];omega)]
 rw[this,Bi]
theorem JL {h:H} (hf:h.floor≤h.next):WX h (h.alloc [.aO,.int .i64 0]) h.next [] .aO:=by
 refine⟨⟨by rw[vh rfl];rfl,vQ.nil,by simpa using hf,by simp;omega,by simp [AV.id?],fun b hb=>by simp [vi,wE]at hb⟩,(Ext.refl _).alloc _,uy _,by simp,fun j hj=>by simp [AV.id?]at hj⟩
def vD (n:Nat):List Nat:=vb 1 3++(List.replicate 5 0++(vb n 16++vb (65535-n) 16))
def wB (s:ByteArray):ByteArray:=bytesOf (vi (vD s.size))++s
theorem AK (s:ByteArray):(wB s).size=s.size+5:=by
 unfold wB
 rw[ByteArray.size_append,vR,wU]
 simp [vD,vb,vp];omega
def wM:List Int:=List.replicate 30 5
theorem Cd:vm vu 15=0:=by decide+kernel
theorem Di:vm wM 15=2048:=by decide+kernel
theorem wT:vu.length=288:=by decide+kernel
theorem yg:∀y∈vu,1≤y∧y<16:=by
 have:vu.all (fun y=>decide (1≤y∧y<16))=true:=by decide+kernel
 intro y hy
 simpa using List.all_eq_true.1 this y hy
theorem Fa:∀y∈wM,1≤y∧y<16:=fun y hy=>by have:=Rh hy;omega
theorem wR:AM vu:=⟨by rw[Cd];omega,fun y hy=>by have:=yg y hy;omega⟩
theorem zg:AM wM:=⟨by rw[Di];omega,fun y hy=>by have:=Fa y hy;omega⟩
theorem Af {l:List Int} (b:AM l) (hr:∀y∈l,1≤y∧y<16) {s:Nat} (hs:s<l.length):Ac (uX l) s:=by
 refine Ek b.left b.Nv hs ?_
 rw[QP,QR hs]
 exact(hr _ (Q6 hs)).1
theorem AS {t:Tok} (o:xm t):F8 (uX vu) (uX wM) t:=by
 refine Ja (ts:=[]) o (fun h=> ?_) (fun h=> ?_) (fun h=> ?_)
 · rcases o with ⟨_,b,c⟩|⟨a,_⟩
   · exact Af wR yg (by rw[wT];omega)
   · omega
 · rcases o with ⟨a,_⟩|⟨a,b,_⟩
   · exact absurd a h
   · have:=xE (k:=t.len.toNat) (by omega) (by omega)
     exact Af wR yg (by rw[wT];omega)
 · rcases o with ⟨a,_⟩|⟨a,b,c,d⟩
   · exact absurd a h
   · have:=xB (k:=t.vG.toNat) (by omega) (by omega)
     have l:wM.length=30:=by simp [wM]
     exact Af zg Fa (by rw[l];omega)
def vH (ts:List Tok):List Nat:=vb 3 3++(vP (uX vu) (uX wM) ts++u4 (uX vu) 256)
theorem xw {bs:List Nat}:(bytesOf (vi bs)).size=(bs.length+7)/8:=by rw[vR,wU]
def Ca (s:ByteArray) (la lb Lc:List Int):ByteArray:=bytesOf (vi (vw (tokens s) la lb Lc))
def Nd (s:ByteArray):ByteArray:=bytesOf (vi (vH (tokens s)))
theorem GL (s:ByteArray) (hs:s.size≤300):(tokens s).length≤300∧(∀t∈tokens s,xm t)∧vt 0 (tokens s)=true∧wk (tokens s) []=preB s s.size:=by
 obtain⟨t1,t2,t3,t4⟩:=yq s hs s.size 0 (by omega) (by omega)
 exact⟨by unfold tokens;omega,t2,t3,t4⟩
theorem J8 (ts:List Tok):∀b∈vH ts,b≤1:=by
 intro b h
 unfold vH at h
 simp only[Re]at h
 rcases h with h|h|h
 · exact we _ _ _ b h
 · obtain⟨y,_,hy⟩:=List.mem_flatMap.1 h
   exact BC _ _ y b hy
 · exact w9 _ _ b h
theorem F7 {E D : List (Int × Int)} : ∀ T : List Tok, (∀ x ∈ T, F8 E D x) → T.length ≤ (vP E D T).length
 |[],_=>by simp
 | x :: T, h => by
   have:=F7 (E:=E) (D:=D) T fun z hz=>h z (by simp [hz])
   have o:=h x (by simp)
   have one:1≤(vB E D x).length:=by
    rcases o with ⟨h1,h2,h3⟩|⟨h1,h2,h3,h4,h5,h6⟩
    · obtain⟨n,v,_,q1,q2,q3,q4⟩:=h3.bits
      rw[vB,if_pos h1,q4,vO];omega
    · obtain⟨n,v,_,q1,q2,q3,q4⟩:=h5.bits
      rw[vB,if_neg (by omega),q4,uU,vO];omega
   unfold vP at *
   rw[QW,uU,QQ];omega
theorem Iz {g:H} {w id n b:Nat} {P:List Nat} {x:Nat} (hb:b≤1) (hw:g.get w=some [.aD id 0 (n/8+1) 1,.int .i64 n]) (hi:g.get id=some (xR P)) (hl:P.length=n/8+1) (hx:P[n/8]?=some x) (hx8:x<256) (hne:id≠w) (hf:g.floor≤w) (hf2:g.floor≤id) (hn:n<1000000):
 ∃e',aK (aQ AP.A) bo (K4 1 AP.f347.body) [(0,.aC w 0),(1,.int .i64 b)] g=some (.normal,e',(g.set id (xR (P.set (n/8) (x|||b* 2^(n%8))))).set w [.aD id 0 (n/8+1) 1,.int .i64 ((n:Int)+1)]):=by
 have c8:b* 2^(n%8)<256:=by
  have h1:2^(n%8)≤2^7:=Q7 (by omega) (by omega)
  have h2:b* 2^(n%8)≤1* 2^7:=Nat.mul_le_mul hb h1
  omega
 have s1:=Kv hb (show n%8<8 by omega)
 have o1:=IA hx8 c8
 have w1:=Qa (n:=b* 2^(n%8)) c8
 have rm:=Po (a:=n) (n:=8) (by omega)
 have rm':bh .rem (.int .i64 (n:Int)) (.int .i64 8)=some (.int .i64 ((n%8:Nat):Int)):=rm
 have w2:IntKind.wrap .i64 (((n/8+1:Nat):Int)-1)=((n/8:Nat):Int):=by rw[wi (by omega)];omega
 have bl:=K9 P
 have gx:=NV hx
 have st:=Pv P (n/8) (x|||b* 2^(n%8))
 have sgn:((n/8:Nat):Int).toNat=n/8:=by omega
 have gw2:(g.set id (xR (P.set (n/8) (x|||b* 2^(n%8))))).get w=some [.aD id 0 (n/8+1) 1,.int .i64 n]:=by rw[uY (fun q=>hne q.symm),hw]
 generalize xR P=BP at *
 generalize b* 2^(n%8)=Y at *
 generalize (x|||Y)=Z at *
 generalize xR (P.set (n/8) Z)=BZ at *
 refine⟨?_, ?_⟩
 rotate_left
 simp (disch:=first|omega|(simp only[wz,QQ,QS,uF,Nat.reduceAdd];first|done|omega|fail)|(simp (disch:=first|omega|(simp only[wz,QQ,QS,uF,Nat.reduceAdd];first|done|omega|fail)|fail)only[wz,BG,QU,QQ,QS,uF,Nat.reduceAdd];done)|fail)only[go_sem,vr,BF,AP.f347,hw,hi,s1,o1,w1,rm',w2,bl,hl,gx,st,sgn,gw2]
 rfl
theorem KH {h : H} {w b : Nat} {bs : List Nat} {ov : AV} (wr : Wr h w bs ov) (hb : b ≤ 1) (hn : bs.length < 1000000) :
 ∃h' ov',aQ AP.A 347 [.aC w 0,.int .i64 b] h=some (.bJ [],h')∧Wr h' w (bs++[b]) ov'∧Ga h w ov h' ov':=by
 obtain⟨gw,ow,fl,Ik,ne,GU⟩:=wr
 obtain⟨n,en⟩:∃n,n=bs.length:=⟨_,rfl⟩
 rw[←en]at gw hn
 have pl:=wU bs
 rw[←en]at pl
 have pa:=DC bs b
 rw[←en]at pa
 obtain⟨P,eP⟩:∃P,P=vi bs:=⟨_,rfl⟩
 rw[←eP]at ow GU pa pl
 have wlt:=h.lt _ _ gw
 obtain ⟨g, ov', id, P', x, s1, hw, hi, hl, hx, hid, hne, hf, hf2, hflx, hP, hk, hx8, hids, hbt⟩ : ∃ g ov' id P' x, aK (aQ AP.A) bo (at_ 0 AP.f347.body) [(0, .aC w 0), (1, .int .i64 b)] h = some (.normal, [(0, .aC w 0), (1, .int .i64 b)], g) ∧ g.get w = some [.aD id 0 (n / 8 + 1) 1, .int .i64 n] ∧ g.get id = some (xR P') ∧ P'.length = n / 8 + 1 ∧ P'[n / 8]? = some x ∧ ov' = AV.aD id 0 (n / 8 + 1) 1 ∧ id ≠ w ∧ g.floor = h.floor ∧ h.floor ≤ id ∧ h.next ≤ g.next ∧ vK P n b = P'.set (n / 8) (x ||| b * 2 ^ (n % 8)) ∧ (∀ i, i < h.next → i ≠ w → ov.id? ≠ some i → g.get i = h.get i) ∧ x < 256 ∧ (ov.id? = some id ∨ h.next ≤ id) ∧ JN P' := by
  have rm:bh .rem (.int .i64 (n:Int)) (.int .i64 8)=some (.int .i64 ((n%8:Nat):Int)):=Po (a:=n) (n:=8) (by omega)
  by_cases c:n%8=0
  · have cz:((n%8:Nat):Int)=0:=by omega
    obtain⟨v',h',p1,p2,p3,p4,p5,p6⟩:=ow.push Ik (z:=1) (m:=1) (by omega) (by omega) [.int .u8 0] rfl rfl (zt (by omega))
    have gw1:h'.get w=some [ov,.int .i64 n]:=by rw[p5 w ne wlt,gw]
    have e1:=p2.1
    rcases p2.2 with ⟨_,q⟩|⟨id,q1,q2,q3,q4⟩
    · omega
    · have hk:P.length+1=n/8+1:=by omega
      rw[hk]at q1
      have qid:id=h.next+1:=by rw[q1]at p6;exact uh p6
      refine⟨h'.set w [v',.int .i64 n],v',id,P++[0],0, ?_, ?_, ?_, ?_, ?_,q1,by omega,by simp [p3],by omega, ?_, ?_, ?_,by omega,.inr (by omega), ?_⟩
      · rw[q1]
        rw[q1]at p1
        have fl':h'.floor≤w:=by omega
        simp (disch:=omega)only[go_sem,vr,AP.f347,Gg,gw,gw1,rm,cz,p1,fl',vo,uY]
      · rw[vo rfl,gw1,q1];rfl
      · rw[uY (by omega),q2,EP];rfl
      · simp;omega
      · rw[Q1 (by omega),show n/8-P.length=0 by omega];rfl
      · simp;omega
      · unfold vK;rw[if_pos c];dsimp only;rw[QP,Q1 (by omega),show n/8-P.length=0 by omega];rfl
      · intro i hi hiw hio
        rw[uY hiw,p5 i hio hi]
      · intro y hy
        rcases Re.1 hy with q|q
        · exact GU y q
        · simp at q;omega
  · have cz:¬((n%8:Nat):Int)=0:=by omega
    rcases ow.2 with ⟨_,q⟩|⟨id,q1,q2,q3,q4⟩
    · omega
    · have hk:P.length=n/8+1:=by omega
      rw[hk]at q1
      obtain⟨x,hx⟩:∃x,P[n/8]?=some x:=⟨_,QR (by omega)⟩
      have hneq:id≠w:=fun q=>ne (by rw[q1,q];rfl)
      refine⟨h,ov,id,P,x, ?_,by rw[gw,q1],q2,hk,hx,q1,hneq,rfl,q3,uy _, ?_,fun _ _ _ _=>rfl,GU x (uE hx),.inl (by rw[q1];rfl),GU⟩
      · simp (disch:=first|omega|(simp only[wz,QQ,QS,uF,Nat.reduceAdd];first|done|omega|fail)|(simp (disch:=first|omega|(simp only[wz,QQ,QS,uF,Nat.reduceAdd];first|done|omega|fail)|fail)only[wz,BG,QU,QQ,QS,uF,Nat.reduceAdd];done)|fail)only[go_sem,vr,BF,AP.f347,gw,rm,cz]
      · unfold vK;rw[if_neg c];dsimp only;rw[QP,hx];rfl
 obtain⟨e',s2⟩:=Iz hb hw hi hl hx hx8 hne (by omega) (by omega) hn
 have cs:aQ AP.A 347 [.aC w 0,.int .i64 b] h=some (.bJ [],(g.set id (xR (P'.set (n/8) (x|||b* 2^(n%8))))).set w [.aD id 0 (n/8+1) 1,.int .i64 ((n:Int)+1)]):=by
  refine vL (fn:=AP.f347) (e:=e') (vs:=[]) rfl rfl rfl ?_ rfl
  have hb:AP.f347.body=.seq (at_ 0 AP.f347.body) (K4 1 AP.f347.body):=rfl
  rw[hb,rq]
  have s1':aK (aQ AP.A) bo (at_ 0 AP.f347.body) (params 0 [.aC w 0,.int .i64 b]) h=some (.normal,[(0,.aC w 0),(1,.int .i64 b)],g):=s1
  rw[s1',r9,s2]
 rw[←hP]at cs
 have ol:(vK P n b).length=n/8+1:=by rw[hP,Rb,hl]
 refine⟨_,ov',cs,⟨?_, ?_, ?_, ?_, ?_, ?_⟩, ?_, ?_, ?_, ?_⟩
 · rw[vo rfl,uY hne.symm,hw,hid,uU,←en];rfl
 · rw[pa,hid]
   exact⟨by simp [xR,ol],.inr ⟨id,by rw[ol],by rw[uY hne,vo rfl,hi];rfl,by simpa [hf]using hf2,by omega⟩⟩
 · simpa [hf]using fl
 · simp;omega
 · rw[hid];exact fun q=>hne (uh q)
 · rw[pa];exact Br hb GU
 · simp [hf]
 · simpa using hflx
 · intro i hi1 hi2 hi3
   have:i≠id:=by
    rcases hids with q|q
    · intro q2;exact hi3 (by rw[q,q2])
    · omega
   rw[uY hi2,uY this,hk i hi1 hi2 hi3]
 · intro j hj
   rw[hid]at hj
   obtain rfl:=uh hj
   exact hids
theorem IM {h:H} {w:Nat} {ov:AV} {v n up N:Nat} (gw:h.get w=some [ov,.int .i64 N]) (hn:n≤up) (hu:up≤16) (hv:v<2^n) (hb:N+n≤65536):aQ AP.A 346 [.aC w 0,.int .i64 v,.int .i64 n,.int .i64 up] h=some (.bool true,h):=by
 have hp:2^n≤2^16:=Q7 (by omega) (by omega)
 have s1:oM .shl .i64 1 (n:Int)=some (.int .i64 ((2^n:Nat):Int)):=by
  have:=AH (a:=1) (s:=n) (by omega) (by omega)
  rwa [Nat.one_mul]at this
 refine s7 (fn:=AP.f346) (e:=[(8,.bool true)]) (vs:=[.bool true]) rfl rfl rfl ?_ rfl
 have c1:(0:Int)≤(n:Int):=by omega
 have c2:(n:Int)≤(up:Int):=by omega
 have c3:(0:Int)≤(v:Int):=by omega
 have c4:(v:Int)<((2^n:Nat):Int):=by omega
 have c5:(N:Int)+(n:Int)≤65536:=by omega
 generalize 2^n=M at *
 simp (disch:=omega)only[go_sem,vr,AP.f346,s1,gw,c1,c2,c3,c4,c5]
theorem DI (w v n:Nat) (hv:v<65536) (hn:n≤16):∀(m i:Nat) (h:H) (bs:List Nat) (ov:AV),i+m=n→Wr h w bs ov→bs.length+m<1000000→
 ∃e' h' ov',Lp AP.A [0,1,17,18] AP.f335L0 [(0,.aC w 0),(1,.int .i64 v),(17,.int .i64 n),(18,.int .i64 i)] h=some (.exit 1,e',h')∧Wr h' w (bs++A8 v i m) ov'∧Ga h w ov h' ov'
 | 0, i, h, bs, ov, hi, wr, hb => by
   obtain rfl:i=n:=by omega
   refine⟨[(0,.aC w 0),(1,.int .i64 v),(17,.int .i64 i),(18,.int .i64 i),(19,.bool false)],h,ov,sM ?_,by simpa [A8]using wr,Ga.refl h w ov⟩
   simp (disch:=omega)only[go_sem,vr,AP.f335L0]
 | m + 1, i, h, bs, ov, hi, wr, hb => by
   have q:=Nat.div_le_self v (2^i)
   obtain⟨h1,o1,k1,wr1,f1⟩:=KH wr (b:=v/2^i%2) (by omega) (by omega)
   obtain⟨e',h',ov',r1,r2,r3⟩:=DI w v n hv hn m (i+1) h1 _ o1 (by omega) wr1 (by simp;omega)
   have n1:((i+1:Nat):Int)=(i:Int)+1:=by omega
   have s1:=FT (a:=v) (s:=i) (by omega)
   have a1:=EG (n:=v/2^i) (by omega)
   rw[Q2]at r2
   refine⟨e',h',ov',sN ?_ r1,r2,f1.trans r3⟩
   rw[n1]
   simp (disch:=omega)only[go_sem,vr,AP.f335L0,s1,a1,k1]
theorem xq {h:H} {w:Nat} {bs:List Nat} {ov:AV} (wr:Wr h w bs ov) (v n:Nat) (hn:n≤16) (hv:v<2^n) (hb:bs.length+n≤65536):
 ∃h' ov',aQ AP.A 335 [.aC w 0,.int .i64 v,.int .i64 n] h=some (.int .i64 0,h')∧Wr h' w (bs++vb v n) ov'∧Ga h w ov h' ov':=by
 have hp:2^n≤2^16:=Q7 (by omega) hn
 obtain⟨e',h',ov',r1,r2,r3⟩:=DI w v n (by omega) hn n 0 h bs ov (by omega) wr (by omega)
 have r1':Lp AP.A [0,1,17,18] AP.f335L0 [(0,.aC w 0),(1,.int .i64 v),(17,.int .i64 n),(18,.int .i64 0)] h=some (.exit 1,e',h'):=r1
 clear r1
 have k:=IM (up:=16) wr.get hn (by omega) hv hb
 refine⟨h',ov',s7 (fn:=AP.f335) (e:=[(6,.int .i64 0)]) (vs:=[.int .i64 0]) rfl rfl rfl ?_ rfl,r2,r3⟩
 have k':aQ AP.A 346 [.aC w 0,.int .i64 v,.int .i64 n,.int .i64 16] h=some (.bool true,h):=k
 simp (disch:=omega)only[go_sem,vr,AP.f335,rK,r1',k']
theorem CC (w v:Nat) (A:List AV) (hA:A[1]?=some (.int .i64 v)) (hA2:A.length=2) (c:Nat) (hv:v<65536):∀(m:Nat) (h:H) (bs:List Nat) (ov:AV),m≤15→Wr h w bs ov→bs.length+m<1000000→h.get c=some A→c≠w→ov.id?≠some c→
 ∃e' h' ov',Lp AP.A [0,3,5] AP.f352L0 [(0,.aC w 0),(3,.aC c 0),(5,.int .i64 ((m:Int)-1))] h=some (.exit 1,e',h')∧Wr h' w (bs++xH v m) ov'∧Ga h w ov h' ov'
 | 0, h, bs, ov, hm, wr, hb, hc, hcw, hco => by
   refine⟨[(0,.aC w 0),(3,.aC c 0),(5,.int .i64 (-1)),(26,.bool false)],h,ov,sM ?_,by simpa [xH]using wr,Ga.refl h w ov⟩
   simp (disch:=omega)only[go_sem,vr,AP.f352L0]
 | m + 1, h, bs, ov, hm, wr, hb, hc, hcw, hco => by
   have q:=Nat.div_le_self v (2^m)
   obtain⟨h1,o1,k1,wr1,f1⟩:=KH wr (b:=v/2^m%2) (by omega) (by omega)
   have hcl:=h.lt _ _ hc
   obtain⟨e',h',ov',r1,r2,r3⟩:=CC w v A hA hA2 c hv m h1 _ o1 (by omega) wr1 (by simp;omega) (by rw[f1.vJ c hcl hcw hco,hc]) hcw (fun q=>by
    rcases f1.ids c q with q|q
    · exact hco q
    · omega)
   have n1:((m+1:Nat):Int)-1=(m:Int):=by omega
   have s1:=FT (a:=v) (s:=m) (by omega)
   have a1:=EG (n:=v/2^m) (by omega)
   rw[Q2]at r2
   refine⟨e',h',ov',sN ?_ r1,r2,f1.trans r3⟩
   rw[n1]
   simp (disch:=omega)only[go_sem,vr,AP.f352L0,s1,a1,k1,hc,hA,hA2]
theorem Hj {h:H} {w:Nat} {bs:List Nat} {ov:AV} (wr:Wr h w bs ov) (v n:Nat) (hn0:1≤n) (hn:n≤15) (hv:v<2^n) (hb:bs.length+n≤65536):
 ∃h' ov',aQ AP.A 352 [.aC w 0,.agg [.int .i64 n,.int .i64 v]] h=some (.int .i64 0,h')∧Wr h' w (bs++xH v n) ov'∧Ga h w ov h' ov':=by
 have hp:2^n≤2^15:=Q7 (by omega) hn
 obtain⟨g,eg⟩:∃g,g=h.alloc [.int .i64 n,.int .i64 v]:=⟨_,rfl⟩
 have hw:=h.lt _ _ wr.get
 have frA:∀i,i<h.next→g.get i=h.get i:=fun i hi=>by rw[eg,u9 (by omega)]
 have wr1:Wr g w bs ov:=⟨by rw[frA w hw,wr.get],wr.own.mono (by rw[eg];simp) (fun i q=>frA i (wr.own.lt q).2),by rw[eg];simpa using wr.fl,by rw[eg];have:=wr.Ik;simp;omega,wr.ne,wr.GU⟩
 have gc:g.get h.next=some [.int .i64 n,.int .i64 v]:=by rw[eg,vh rfl]
 obtain⟨e',h',ov',r1,r2,r3⟩:=CC w v _ rfl rfl h.next (by omega) n g bs ov hn wr1 (by omega) gc (by omega) (fun q=>by have:=(wr.own.lt q).2;omega)
 have k:aQ AP.A 346 [.aC w 0,.int .i64 v,.int .i64 n,.int .i64 15] g=some (.bool true,g):=IM (up:=15) wr1.get hn (by omega) hv hb
 refine⟨h',ov',s7 (fn:=AP.f352) (e:=[(4,.int .i64 0)]) (vs:=[.int .i64 0]) rfl rfl rfl ?_ rfl,r2,⟨by rw[r3.floor,eg];simp,by have:=r3.next;rw[eg]at this;simp at this;omega,fun i h1 h2 h3=>by rw[r3.vJ i (by rw[eg];simp;omega) h2 h3,frA i h1],fun j hj=>by
  rcases r3.ids j hj with q|q
  · exact .inl q
  · rw[eg]at q;simp at q;exact .inr (by omega)⟩⟩
 have c1:¬(n:Int)<1:=by omega
 simp (disch:=omega)only[go_sem,vr,AP.f352,rK,←eg,r1,c1,gc,k]
theorem Hl {h:H} {w:Nat} {bs:List Nat} {ov:AV} (wr:Wr h w bs ov):aQ AP.A 336 [.aC w 0] h=some (.str (bytesOf (vi bs)),h):=by
 have gw:=wr.get
 have b:=EH wr.own
 refine s7 (fn:=AP.f336) (e:=[(2,.str (bytesOf (vi bs)))]) (vs:=[.str (bytesOf (vi bs))]) rfl rfl rfl ?_ rfl
 simp (disch:=omega)only[go_sem,vr,AP.f336,gw,b]
theorem FH (bs : List Nat) : ∀ m : Nat, (bs.length + m) % 8 = 0 → m < 8 → vi (bs ++ List.replicate m 0) = vi bs := by
 have step:∀(k:Nat) (cs:List Nat),k+cs.length%8≤8→(0<k→cs.length%8≠0)→vi (cs++List.replicate k 0)=vi cs:=by
  intro k
  induction k with
  |zero=>intro cs _ _;simp
  | succ k ih =>
    intro cs h1 h2
    have hne:=h2 (by omega)
    have e:cs++List.replicate (k+1) 0=(cs++[0])++List.replicate k 0:=by simp [List.replicate_succ]
    have l1:(cs++[0]).length=cs.length+1:=by simp
    have z:vi (cs++[0])=vi cs:=by
     rw[DC]
     unfold vK
     rw[if_neg hne]
     dsimp only
     rw[Nat.zero_mul,Nat.or_zero]
     have hl:=wU cs
     have hlt:cs.length/8<(vi cs).length:=by omega
     rw[QP,QR hlt]
     exact List.set_getElem_self hlt
    rw[e]
    by_cases c:k=0
    · subst c;simpa using z
    · rw[ih (cs++[0]) (by rw[l1];omega) (fun _=>by rw[l1];omega),z]
 intro m hm h8
 refine step m bs (by omega) (fun h=>by omega)
theorem Jh {h:H} {w:Nat} {bs:List Nat} {ov:AV} (wr:Wr h w bs ov) (m:Nat) (hm:(bs.length+m)%8=0) (h8:m<8) (hb:bs.length+m<1000):
 ∃h',aQ AP.A 334 [.aC w 0] h=some (.int .i64 0,h')∧Wr h' w (bs++List.replicate m 0) ov∧Ga h w ov h' ov:=by
 have gw:=wr.get
 have pz:=FH bs m hm h8
 have pl:=wU bs
 have ln:=wr.own.rd.len
 have e8:(8:Int)* ((vi bs).length:Nat)=((bs.length+m:Nat):Int):=by omega
 have fl:=wr.fl
 refine⟨h.set w [ov,.int .i64 (bs.length+m:Nat)],s7 (fn:=AP.f334) (e:=[(2,.int .i64 0)]) (vs:=[.int .i64 0]) rfl rfl rfl ?_ rfl,⟨by rw[vo rfl,gw];simp, ?_,by simpa using fl,by simpa using wr.Ik,wr.ne,by rw[pz];exact wr.GU⟩,⟨by simp,by simp,fun i _ h2 _=>uY h2,fun j hj=>.inl hj⟩⟩
 · have mb:((bs.length+m:Nat):Int)<1000:=by omega
   generalize ((bs.length+m:Nat):Int)=M at *
   have M0:0≤M:=by omega
   clear pz
   simp (disch:=omega)only[go_sem,vr,AP.f334,gw,ln,e8,fl]
 · rw[pz];exact wr.own.mono (by simp) fun j hj=>uY (fun q=>wr.ne (by rw[hj,q]))
theorem GR {h:H} (hf:h.floor=h.next) (k:Nat) (hk:k<4):∃h' ov',aQ AP.A 333 [.int .i64 k] h=some (.aC h.next 0,h')∧WX h h' h.next (vb 1 1++vb k 2) ov'∧h'.floor=h.floor:=by
 have x0:=JL (h:=h) (by omega)
 obtain⟨h1,o1,k1,w1,f1⟩:=xq x0.wr 1 1 (by omega) (by omega) (by simp)
 have x1:=x0.step w1 f1
 obtain⟨h2,o2,k2,w2,f2⟩:=xq x1.wr k 2 (by omega) (by omega) (by simp [vb,vp])
 have x2:=x1.step w2 f2
 have kn:aQ AP.A 345 [] h=some (.aC h.next 0,h.alloc [.aO,.int .i64 0]):=by
  refine s7 (fn:=AP.f345) (e:=[(0,.aC h.next 0)]) (vs:=[.aC h.next 0]) rfl rfl rfl ?_ rfl
  simp (disch:=omega)only[go_sem,vr,AP.f345]
 refine⟨h2,o2,s7 (fn:=AP.f333) (e:=[(2,.aC h.next 0)]) (vs:=[.aC h.next 0]) rfl rfl rfl ?_ rfl, ?_,by rw[f2.floor,f1.floor];simp⟩
 · clear x0 x1 x2
   have k1':aQ AP.A 335 [.aC h.next 0,.int .i64 1,.int .i64 1] (h.alloc [.aO,.int .i64 0])=some (.int .i64 0,h1):=k1
   have k2':aQ AP.A 335 [.aC h.next 0,.int .i64 k,.int .i64 2] h1=some (.int .i64 0,h2):=k2
   simp (disch:=omega)only[go_sem,vr,AP.f333,kn,k1',k2']
 · simpa using x2
theorem Mg {F:Nat→Option (Nat×Nat)} {k to:Nat} (h:vg (F to)≤k):yu F k to=to:=by
 cases to with
 |zero=>rfl
 |succ t=>rw[yu,if_pos h]
theorem Ds {F : Nat → Option (Nat × Nat)} {fk : Nat} (hF : ∀ (g : H) (s : Nat), s < 1000000 → aQ AP.A fk [.int .i64 s] g = some (CY (F s), g)) (k to : Nat) (hk : k < 1000000) (hto : to < 1000) (hl : vg (F to) ≤ k) (g : H) (id : Nat) (hf : g.floor ≤ id) (hg : g.get id = some [.int .i64 0, .int .i64 0, .int .i64 0]) : ∀ n : Nat, n < 1000 → (∀ s, to ≤ s → s ≤ to + n → ∃ a b, F s = some (a, b) ∧ a < 1000000) →
 (yu F k (to+n)=to∧Lp AP.A [0,2,3,8,9] AP.f361L0 [(0,.int .i64 k),(2,.int .i64 to),(3,.fn fk [] []),(8,.aC id 0),(9,.int .i64 (to+n:Nat))] g=some (.exit 0,[(0,.int .i64 k),(2,.int .i64 to),(3,.fn fk [] []),(8,.aC id 0),(9,.int .i64 to),(16,.bool false)],g))∨
 (yu F k (to+n)≠to∧Lp AP.A [0,2,3,8,9] AP.f361L0 [(0,.int .i64 k),(2,.int .i64 to),(3,.fn fk [] []),(8,.aC id 0),(9,.int .i64 (to+n:Nat))] g=some (.ret,[(8,.aC id 0)],g.set id [.int .i64 (yu F k (to+n):Nat),.int .i64 (v7 (F (yu F k (to+n))):Nat),.int .i64 ((k-vg (F (yu F k (to+n))):Nat):Int)]))
 | 0, _, _ => by
   refine .inl ⟨Mg hl,sM ?_⟩
   simp (disch:=omega)only[go_sem,vr,AP.f361L0]
 | n + 1, hn, hs => by
   obtain⟨a,b,hab,ha⟩:=hs (to+(n+1)) (by omega) (by omega)
   have kk:=fun g=>hF g (to+(n+1)) (by omega)
   rw[hab]at kk
   simp only[I,CY]at kk
   have la:vg (F (to+(n+1)))=a:=by rw[hab];rfl
   have lb:v7 (F (to+(n+1)))=b:=by rw[hab];rfl
   have c0:(to:Int)<((to+(n+1):Nat):Int):=by omega
   have ed:yu F k (to+(n+1))=if a≤k then to+(n+1)else yu F k (to+n):=by rw[←ux,yu,←la];rfl
   by_cases c1:a≤k
   · rw[if_pos c1]at ed
     rw[ed,la,lb]
     refine .inr ⟨by omega,tq ?_⟩
     have n1:((k-a:Nat):Int)=(k:Int)-(a:Int):=by omega
     have c2:(a:Int)≤(k:Int):=by omega
     have sb:((to+(n+1):Nat):Int)<1000000:=by omega
     rw[n1]
     generalize ((to+(n+1):Nat):Int)=s at *
     clear hs hF
     simp (disch:=first|omega|(simp only[wz,QQ,QS,uF,Nat.reduceAdd];first|done|omega|fail)|(simp (disch:=first|omega|(simp only[wz,QQ,QS,uF,Nat.reduceAdd];first|done|omega|fail)|fail)only[wz,BG,QU,QQ,QS,uF,Nat.reduceAdd];done)|fail)only[go_sem,vr,BF,AP.f361L0,c0,kk,c2,hg]
   · rw[if_neg c1]at ed
     rw[ed]
     have n1:((to+(n+1):Nat):Int)-1=((to+n:Nat):Int):=by omega
     have c2:¬(a:Int)≤(k:Int):=by omega
     have st:aK (aQ AP.A) bo AP.f361L0 (ax [(0,.int .i64 k),(2,.int .i64 to),(3,.fn fk [] []),(8,.aC id 0),(9,.int .i64 (to+(n+1):Nat))] [0,2,3,8,9]) g=some (.normal,[(0,.int .i64 k),(2,.int .i64 to),(3,.fn fk [] []),(8,.aC id 0),(9,.int .i64 (to+n:Nat))],g):=by
      rw[←n1]
      have sb:((to+(n+1):Nat):Int)<1000000:=by omega
      have sb0:0≤((to+(n+1):Nat):Int):=by omega
      clear n1
      generalize ((to+(n+1):Nat):Int)=s at *
      clear hs hF
      simp (disch:=first|omega|(simp only[wz,QQ,QS,uF,Nat.reduceAdd];first|done|omega|fail)|(simp (disch:=first|omega|(simp only[wz,QQ,QS,uF,Nat.reduceAdd];first|done|omega|fail)|fail)only[wz,BG,QU,QQ,QS,uF,Nat.reduceAdd];done)|fail)only[go_sem,vr,BF,AP.f361L0,c0,kk,c2,hg]
     rcases Ds hF k to hk hto hl g id hf hg n (by omega) (fun s h1 h2=>hs s h1 (by omega))with ⟨e,L⟩|⟨e,L⟩
     · exact .inl ⟨e,sN st L⟩
     · exact .inr ⟨e,sN st L⟩
theorem I5 {F:Nat→Option (Nat×Nat)} {fk:Nat} (hF:∀(g:H) (s:Nat),s<1000000→aQ AP.A fk [.int .i64 s] g=some (CY (F s),g)) (k to n:Nat) (hk:k<1000000) (hto:to<1000) (hl:vg (F to)≤k) (hn:n<1000) (hs:∀s,to≤s→s≤to+n→∃a b,F s=some (a,b)∧a<1000000) (hz:yu F k (to+n)=to→v7 (F to)=0∧k=vg (F to)) (h:H):
 aQ AP.A 361 [.int .i64 k,.int .i64 (to+n:Nat),.int .i64 to,.fn fk [] []] h=some (.agg [.int .i64 (yu F k (to+n):Nat),.int .i64 (v7 (F (yu F k (to+n))):Nat),.int .i64 ((k-vg (F (yu F k (to+n))):Nat):Int)],h):=by
 rcases Ds hF k to hk hto hl (h.dG.alloc [.int .i64 0,.int .i64 0,.int .i64 0]) h.next (by simp) (by rw[vh (by simp)]) n hn hs with ⟨e,L⟩|⟨e,L⟩
 · obtain⟨z1,z2⟩:=hz e
   rw[e,z1,←z2,Nat.sub_self]
   refine tE (fn:=AP.f361) (h2:=(h.dG.alloc [.int .i64 0,.int .i64 0,.int .i64 0]).set h.next [.int .i64 to,.int .i64 0,.int .i64 0]) (e:=[(8,.aC h.next 0)]) (vs:=[.agg [.int .i64 to,.int .i64 0,.int .i64 0]]) rfl rfl rfl ?_ ?_ ?_
   · clear hs hF
     simp (disch:=first|omega|(simp only[wz,QQ,QS,uF,Nat.reduceAdd];first|done|omega|fail)|(simp (disch:=first|omega|(simp only[wz,QQ,QS,uF,Nat.reduceAdd];first|done|omega|fail)|fail)only[wz,BG,QU,QQ,QS,uF,Nat.reduceAdd];done)|fail)only[go_sem,vr,BF,AP.f361,rK,L]
   · simp (disch:=first|omega|(simp only[wz,QQ,QS,uF,Nat.reduceAdd];first|done|omega|fail)|(simp (disch:=first|omega|(simp only[wz,QQ,QS,uF,Nat.reduceAdd];first|done|omega|fail)|fail)only[wz,BG,QU,QQ,QS,uF,Nat.reduceAdd];done)|fail)only[go_sem,vr,BF,AP.f361,cm,mO];rfl
   · rfl
 · generalize yu F k (to+n)=S at *
   generalize v7 (F S)=B at *
   generalize k-vg (F S)=V at *
   refine tE (fn:=AP.f361) (h2:=(h.dG.alloc [.int .i64 0,.int .i64 0,.int .i64 0]).set h.next [.int .i64 S,.int .i64 B,.int .i64 V]) (e:=[(8,.aC h.next 0)]) (vs:=[.agg [.int .i64 S,.int .i64 B,.int .i64 V]]) rfl rfl rfl ?_ ?_ ?_
   · clear hs hF
     simp (disch:=first|omega|(simp only[wz,QQ,QS,uF,Nat.reduceAdd];first|done|omega|fail)|(simp (disch:=first|omega|(simp only[wz,QQ,QS,uF,Nat.reduceAdd];first|done|omega|fail)|fail)only[wz,BG,QU,QQ,QS,uF,Nat.reduceAdd];done)|fail)only[go_sem,vr,BF,AP.f361,rK,L]
   · simp (disch:=first|omega|(simp only[wz,QQ,QS,uF,Nat.reduceAdd];first|done|omega|fail)|(simp (disch:=first|omega|(simp only[wz,QQ,QS,uF,Nat.reduceAdd];first|done|omega|fail)|fail)only[wz,BG,QU,QQ,QS,uF,Nat.reduceAdd];done)|fail)only[go_sem,vr,BF,AP.f361,cm,mO];rfl
   · rfl
theorem Ns (h:H) (k:Nat) (h1:3≤k) (h2:k≤258):aQ AP.A 355 [.int .i64 k] h=some (.bJ [.agg [.int .i64 (wV k:Nat),.int .i64 (yU k:Nat),.int .i64 (zQ k:Nat)],.int .i64 0],h):=by
 by_cases c:k=258
 · subst c
   have e1:wV 258=285:=by decide
   have e2:yU 258=0:=by decide
   have e3:zQ 258=0:=by decide
   rw[e1,e2,e3]
   refine tE (fn:=AP.f355) (h2:=(h.dG.alloc [.int .i64 0,.int .i64 0,.int .i64 0]).set h.next [.int .i64 285,.int .i64 0,.int .i64 0]) (e:=[(2,.aC h.next 0),(3,.int .i64 0)]) (vs:=[.agg [.int .i64 285,.int .i64 0,.int .i64 0],.int .i64 0]) rfl rfl rfl ?_ ?_ ?_
   · have a1:¬((258:Nat):Int)<3:=by omega
     have a2:¬(258:Int)<((258:Nat):Int):=by omega
     have a3:(((258:Nat):Int)==258)=true:=by decide
     generalize ((258:Nat):Int)=K at *
     simp (disch:=first|omega|(simp only[wz,QQ,QS,uF,Nat.reduceAdd];first|done|omega|fail)|(simp (disch:=first|omega|(simp only[wz,QQ,QS,uF,Nat.reduceAdd];first|done|omega|fail)|fail)only[wz,BG,QU,QQ,QS,uF,Nat.reduceAdd];done)|fail)only[go_sem,vr,BF,AP.f355,a1,a2,a3]
   · simp (disch:=first|omega|(simp only[wz,QQ,QS,uF,Nat.reduceAdd];first|done|omega|fail)|(simp (disch:=first|omega|(simp only[wz,QQ,QS,uF,Nat.reduceAdd];first|done|omega|fail)|fail)only[wz,BG,QU,QQ,QS,uF,Nat.reduceAdd];done)|fail)only[go_sem,vr,BF,AP.f355,cm,mO];rfl
   · rfl
 · have e:yu lenOf k 285=yu lenOf k 284:=by
    rw[yu,if_neg]
    have:vg (lenOf (284+1))=258:=rfl
    omega
   have sp:=xE h1 h2
   have hz:yu lenOf k (257+27)=257→v7 (lenOf 257)=0∧k=vg (lenOf 257):=fun q=>by
    have q':wV k=257:=e.trans q
    rw[q']at sp
    have b1:v7 (lenOf 257)=0:=rfl
    have l1:vg (lenOf 257)=3:=rfl
    rw[l1,b1]at sp
    exact⟨rfl,by rw[l1];omega⟩
   have r:=I5 (F:=lenOf) (fk:=74) (fun g s hs=>Hc g s hs) k 257 27 (by omega) (by omega) (show vg (lenOf 257)≤k from h1) (by omega) (fun s q1 q2=>by
    obtain⟨a,b,hab⟩:=zP q1 (by omega)
    have:=Cs hab
    exact⟨a,b,hab,by omega⟩) hz (h.dG.alloc [.int .i64 0,.int .i64 0,.int .i64 0])
   have el:yu lenOf k (257+27)=wV k:=e.symm
   rw[el]at r
   have r':aQ AP.A 361 [.int .i64 k,.int .i64 284,.int .i64 257,.fn 74 [] []] (h.dG.alloc [.int .i64 0,.int .i64 0,.int .i64 0])=some (.agg [.int .i64 (wV k:Nat),.int .i64 (yU k:Nat),.int .i64 (zQ k:Nat)],h.dG.alloc [.int .i64 0,.int .i64 0,.int .i64 0]):=r
   clear r
   generalize wV k=S at *
   generalize yU k=B at *
   generalize zQ k=V at *
   refine tE (fn:=AP.f355) (h2:=(h.dG.alloc [.int .i64 0,.int .i64 0,.int .i64 0]).set h.next [.int .i64 S,.int .i64 B,.int .i64 V]) (e:=[(2,.aC h.next 0),(3,.int .i64 0)]) (vs:=[.agg [.int .i64 S,.int .i64 B,.int .i64 V],.int .i64 0]) rfl rfl rfl ?_ ?_ ?_
   · have a1:¬(k:Int)<3:=by omega
     have a2:¬(258:Int)<(k:Int):=by omega
     have a3:((k:Int)==258)=false:=by simp;omega
     clear sp hz
     simp (disch:=first|omega|(simp only[wz,QQ,QS,uF,Nat.reduceAdd];first|done|omega|fail)|(simp (disch:=first|omega|(simp only[wz,QQ,QS,uF,Nat.reduceAdd];first|done|omega|fail)|fail)only[wz,BG,QU,QQ,QS,uF,Nat.reduceAdd];done)|fail)only[go_sem,vr,BF,AP.f355,a1,a2,a3,r']
   · simp (disch:=first|omega|(simp only[wz,QQ,QS,uF,Nat.reduceAdd];first|done|omega|fail)|(simp (disch:=first|omega|(simp only[wz,QQ,QS,uF,Nat.reduceAdd];first|done|omega|fail)|fail)only[wz,BG,QU,QQ,QS,uF,Nat.reduceAdd];done)|fail)only[go_sem,vr,BF,AP.f355,cm,mO];rfl
   · rfl
theorem Ko (h:H) (k:Nat) (h1:1≤k) (h2:k≤32768):aQ AP.A 356 [.int .i64 k] h=some (.bJ [.agg [.int .i64 (xp k:Nat),.int .i64 (zF k:Nat),.int .i64 (Ao k:Nat)],.int .i64 0],h):=by
 have sp:=xB h1 h2
 have hz:yu vx k (0+29)=0→v7 (vx 0)=0∧k=vg (vx 0):=fun q=>by
  have q':xp k=0:=q
  rw[q']at sp
  have b1:v7 (vx 0)=0:=rfl
  have l1:vg (vx 0)=1:=rfl
  rw[l1,b1]at sp
  exact⟨rfl,by rw[l1];omega⟩
 have r:=I5 (F:=vx) (fk:=75) (fun g s hs=>E5 g s hs) k 0 29 (by omega) (by omega) (show vg (vx 0)≤k from h1) (by omega) (fun s q1 q2=>by
  obtain⟨a,b,hab⟩:=yR (s:=s) (by omega)
  have:=AQ hab
  exact⟨a,b,hab,by omega⟩) hz (h.dG.alloc [.int .i64 0,.int .i64 0,.int .i64 0])
 have r':aQ AP.A 361 [.int .i64 k,.int .i64 29,.int .i64 0,.fn 75 [] []] (h.dG.alloc [.int .i64 0,.int .i64 0,.int .i64 0])=some (.agg [.int .i64 (xp k:Nat),.int .i64 (zF k:Nat),.int .i64 (Ao k:Nat)],h.dG.alloc [.int .i64 0,.int .i64 0,.int .i64 0]):=r
 clear r
 generalize xp k=S at *
 generalize zF k=B at *
 generalize Ao k=V at *
 refine tE (fn:=AP.f356) (h2:=(h.dG.alloc [.int .i64 0,.int .i64 0,.int .i64 0]).set h.next [.int .i64 S,.int .i64 B,.int .i64 V]) (e:=[(2,.aC h.next 0),(3,.int .i64 0)]) (vs:=[.agg [.int .i64 S,.int .i64 B,.int .i64 V],.int .i64 0]) rfl rfl rfl ?_ ?_ ?_
 · have a1:¬(k:Int)<1:=by omega
   have a2:¬(32768:Int)<(k:Int):=by omega
   clear sp hz
   simp (disch:=first|omega|(simp only[wz,QQ,QS,uF,Nat.reduceAdd];first|done|omega|fail)|(simp (disch:=first|omega|(simp only[wz,QQ,QS,uF,Nat.reduceAdd];first|done|omega|fail)|fail)only[wz,BG,QU,QQ,QS,uF,Nat.reduceAdd];done)|fail)only[go_sem,vr,BF,AP.f356,a1,a2,r']
 · simp (disch:=first|omega|(simp only[wz,QQ,QS,uF,Nat.reduceAdd];first|done|omega|fail)|(simp (disch:=first|omega|(simp only[wz,QQ,QS,uF,Nat.reduceAdd];first|done|omega|fail)|fail)only[wz,BG,QU,QQ,QS,uF,Nat.reduceAdd];done)|fail)only[go_sem,vr,BF,AP.f356,cm,mO];rfl
 · rfl
theorem F0 (h:H) (x d:Int):aQ AP.A 349 [.agg [.int .i64 x,.int .i64 0,.int .i64 d]] h=some (.bJ [.agg [.int .i64 x,.int .i64 0,.int .i64 0],.agg [.int .i64 0,.int .i64 0,.int .i64 0],.bool false],h):=by
 refine tE (fn:=AP.f349) (h2:=(((((h.dG.alloc [.int .i64 x,.int .i64 0,.int .i64 d]).alloc [.int .i64 0,.int .i64 0,.int .i64 0]).alloc [.int .i64 0,.int .i64 0,.int .i64 0]).set (h.next+1) [.int .i64 x,.int .i64 0,.int .i64 0]).set (h.next+2) [.int .i64 0,.int .i64 0,.int .i64 0])) (e:=[(2,.aC (h.next+1) 0),(3,.aC (h.next+2) 0),(4,.bool false)]) (vs:=[.agg [.int .i64 x,.int .i64 0,.int .i64 0],.agg [.int .i64 0,.int .i64 0,.int .i64 0],.bool false]) rfl rfl rfl ?_ ?_ ?_
 · simp (disch:=first|omega|(simp only[wz,QQ,QS,uF,Nat.reduceAdd];first|done|omega|fail)|(simp (disch:=first|omega|(simp only[wz,QQ,QS,uF,Nat.reduceAdd];first|done|omega|fail)|fail)only[wz,BG,QU,QQ,QS,uF,Nat.reduceAdd];done)|fail)only[go_sem,vr,BF,AP.f349]
 · simp (disch:=first|omega|(simp only[wz,QQ,QS,uF,Nat.reduceAdd];first|done|omega|fail)|(simp (disch:=first|omega|(simp only[wz,QQ,QS,uF,Nat.reduceAdd];first|done|omega|fail)|fail)only[wz,BG,QU,QQ,QS,uF,Nat.reduceAdd];done)|fail)only[go_sem,vr,BF,AP.f349,cm,mO];rfl
 · rfl
theorem DT (h:H) (k d:Nat) (h1:3≤k) (h2:k≤258) (d1:1≤d) (d2:d≤32768):aQ AP.A 349 [.agg [.int .i64 0,.int .i64 k,.int .i64 d]] h=some (.bJ [.agg [.int .i64 (wV k:Nat),.int .i64 (yU k:Nat),.int .i64 (zQ k:Nat)],.agg [.int .i64 (xp d:Nat),.int .i64 (zF d:Nat),.int .i64 (Ao d:Nat)],.bool true],h):=by
 have k1:=fun g=>Ns g k h1 h2
 have k2:=fun g=>Ko g d d1 d2
 have c0:((k:Int)==0)=false:=by simp;omega
 generalize wV k=S at *
 generalize yU k=B at *
 generalize zQ k=V at *
 generalize xp d=S' at *
 generalize zF d=B' at *
 generalize Ao d=V' at *
 obtain⟨g,eg⟩:∃g,g=((((((((h.dG.alloc [.int .i64 0,.int .i64 k,.int .i64 d]).alloc [.int .i64 0,.int .i64 0,.int .i64 0]).alloc [.int .i64 0,.int .i64 0,.int .i64 0]).alloc [.int .i64 0,.int .i64 0,.int .i64 0]).set (h.next+3) [.int .i64 S,.int .i64 B,.int .i64 V]).alloc [.int .i64 0,.int .i64 0,.int .i64 0]).set (h.next+4) [.int .i64 S',.int .i64 B',.int .i64 V']).set (h.next+1) [.int .i64 S,.int .i64 B,.int .i64 V]).set (h.next+2) [.int .i64 S',.int .i64 B',.int .i64 V']:=⟨_,rfl⟩
 refine tE (fn:=AP.f349) (h2:=g) (e:=[(2,.aC (h.next+1) 0),(3,.aC (h.next+2) 0),(4,.bool true)]) (vs:=[.agg [.int .i64 S,.int .i64 B,.int .i64 V],.agg [.int .i64 S',.int .i64 B',.int .i64 V'],.bool true]) rfl rfl rfl ?_ ?_ ?_
 · rw[eg]
   simp (disch:=first|omega|(simp only[wz,QQ,QS,uF,Nat.reduceAdd];first|done|omega|fail)|(simp (disch:=first|omega|(simp only[wz,QQ,QS,uF,Nat.reduceAdd];first|done|omega|fail)|fail)only[wz,BG,QU,QQ,QS,uF,Nat.reduceAdd];done)|fail)only[go_sem,vr,BF,AP.f349,c0,k1,k2]
 · rw[eg]
   simp (disch:=first|omega|(simp only[wz,QQ,QS,uF,Nat.reduceAdd];first|done|omega|fail)|(simp (disch:=first|omega|(simp only[wz,QQ,QS,uF,Nat.reduceAdd];first|done|omega|fail)|fail)only[wz,BG,QU,QQ,QS,uF,Nat.reduceAdd];done)|fail)only[go_sem,vr,BF,AP.f349,cm,mO];rfl
 · rfl
theorem GD {h0 h:H} {w:Nat} {bs:List Nat} {ov lv:AV} {E:List (Int×Int)} (rl:xQ 2 h0 lv E.length (E.flatMap wq)) (x:WX h0 h w bs ov) (s b v:Nat) (o:Ac E s) (hb:b≤16) (hv:v<2^b) (hl:bs.length+31≤65536):
 ∃h' ov',aQ AP.A 350 [.aC w 0,lv,.agg [.int .i64 s,.int .i64 b,.int .i64 v]] h=some (.bJ [],h')∧WX h0 h' w (bs++(u4 E s++vb v b)) ov'∧h.next≤h'.next∧(∀i,i<h.next→i≠w→ov.id?≠some i→h'.get i=h.get i)∧(∀j,ov'.id?=some j→ov.id?=some j∨h.next≤j):=by
 obtain⟨g,eg⟩:∃g,g=h.alloc [.int .i64 s,.int .i64 b,.int .i64 v]:=⟨_,rfl⟩
 have x1:WX h0 g w bs ov:=x.turn (by rw[eg];simp) (by rw[eg];simp) fun i hi=>by rw[eg,u9 (by omega)]
 have gg:g.get h.next=some [.int .i64 s,.int .i64 b,.int .i64 v]:=by rw[eg,vh rfl]
 have hw:=h.lt _ _ x.wr.get
 have hon:ov.id?≠some h.next:=fun q=>by have:=(x.wr.own.lt q).2;omega
 obtain⟨le,l1,l2⟩:=rl.KN
 obtain⟨n,c,q0,q1,q2,q3,q4⟩:=o.bits
 have e1:=l1 s ⟨by omega,by have:=o.lt;omega⟩
 have e2:=l2 g x1.ext _ _ q0
 obtain⟨h2,o2,k1,k2,k3⟩:=Hj x1.wr c n q1 q2 q3 (by omega)
 have x2:=x1.step k2 k3
 have g2:h2.get h.next=some [.int .i64 s,.int .i64 b,.int .i64 v]:=(k3.vJ h.next (by rw[eg];simp) (by omega) hon).trans gg
 obtain⟨h3,o3,k4,k5,k6⟩:=xq x2.wr v b hb hv (by simp [vO];omega)
 have x3:=x2.step k5 k6
 refine⟨h3,o3,vL (fn:=AP.f350) (e:=[]) (vs:=[]) rfl rfl rfl ?_ rfl,by rw[q4,←Q2];exact x3, ?_,fun i hi hiw hio=> ?_,fun j hj=> ?_⟩
 · clear rl l1 l2 x x1 x2 x3 k2 k3 k5 k6 q4
   simp (disch:=omega)only[go_sem,vr,AP.f350,←eg,gg,e1,e2,k1,g2,k4]
 · have a1:=k3.next
   have a2:=k6.next
   rw[eg]at a1;simp at a1;omega
 · have a1:=k3.next
   have e:g.get i=h.get i:=by rw[eg,u9 (by omega)]
   have gn:g.next=h.next+1:=by rw[eg];simp
   rw[k6.vJ i (by omega) hiw (fun q=>by
    rcases k3.ids i q with z|z
    · exact hio z
    · omega),k3.vJ i (by omega) hiw hio,e]
 · have gn:g.next=h.next+1:=by rw[eg];simp
   rcases k6.ids j hj with z|z
   · rcases k3.ids j z with y|y
     · exact .inl y
     · exact .inr (by omega)
   · have:=k3.next;exact .inr (by omega)
theorem Ib {v lv dv:AV} {ts:List Tok} {E D:List (Int×Int)} (hn:ts.length<1000000) (h0:H) (rd:xQ 3 h0 v ts.length (vI ts)) (rl:xQ 2 h0 lv E.length (E.flatMap wq)) (rx:xQ 2 h0 dv D.length (D.flatMap wq)) (w i:Nat) (t:Tok) (ht:ts[i]?=some t) (o:F8 E D t) (tk:xm t) (tl:t.len≠0→t.lit=0) (h:H) (bs:List Nat) (ov:AV) (x:WX h0 h w bs ov) (hb:bs.length+48≤65000):
 ∃h' ov',aK (aQ AP.A) bo AP.f339L0 (ax [(0,.aC w 0),(2,lv),(3,dv),(14,v),(15,.int .i64 ts.length),(16,.int .i64 i)] [0,2,3,14,15,16]) h=some (.normal,[(0,.aC w 0),(2,lv),(3,dv),(14,v),(15,.int .i64 ts.length),(16,.int .i64 (i+1:Nat))],h')∧WX h0 h' w (bs++vB E D t) ov':=by
 obtain⟨ad,a1,a2,a3⟩:=rd.NJ
 have hi:i<ts.length:=(uu.1 ht).1
 have hI:(0:Int)≤(i:Int)∧(i:Int)<ts.length:=⟨by omega,by omega⟩
 have b1:=a1 _ hI
 obtain⟨_,_,_,b2⟩:=a3 h x.ext _ _ ht
 have n1:((i+1:Nat):Int)=(i:Int)+1:=by omega
 have ci:(i:Int)<(ts.length:Int):=hI.2
 have step:∀(S B V S' B' V':Nat) (cp:Bool),(∀g:H,aQ AP.A 349 [.agg [.int .i64 t.lit,.int .i64 t.len,.int .i64 t.vG]] g=some (.bJ [.agg [.int .i64 S,.int .i64 B,.int .i64 V],.agg [.int .i64 S',.int .i64 B',.int .i64 V'],.bool cp],g))→Ac E S→B≤5→V<2^B→(cp=true→Ac D S'∧B'≤13∧V'<2^B')→
  ∃h' ov',aK (aQ AP.A) bo AP.f339L0 (ax [(0,.aC w 0),(2,lv),(3,dv),(14,v),(15,.int .i64 ts.length),(16,.int .i64 i)] [0,2,3,14,15,16]) h=some (.normal,[(0,.aC w 0),(2,lv),(3,dv),(14,v),(15,.int .i64 ts.length),(16,.int .i64 (i+1:Nat))],h')∧WX h0 h' w (bs++((u4 E S++vb V B)++if cp=true then u4 D S'++vb V' B' else [])) ov':=by
  intro S B V S' B' V' cp ks oS hB hV hcp
  obtain⟨g1,eg1⟩:∃g,g=(h.alloc [.int .i64 0,.int .i64 0,.int .i64 0]).set h.next [.int .i64 t.lit,.int .i64 t.len,.int .i64 t.vG]:=⟨_,rfl⟩
  obtain⟨g2,eg2⟩:∃g,g=(((g1.alloc [.int .i64 0,.int .i64 0,.int .i64 0]).alloc [.int .i64 0,.int .i64 0,.int .i64 0]).set g1.next [.int .i64 S,.int .i64 B,.int .i64 V]).set (g1.next+1) [.int .i64 S',.int .i64 B',.int .i64 V']:=⟨_,rfl⟩
  have n1':g1.next=h.next+1:=by rw[eg1];simp
  have n2':g2.next=h.next+3:=by rw[eg2];simp;omega
  have fl1:h.floor≤h.next:=x.wr.Ik
  have flg:g1.floor≤g1.next:=by rw[n1',eg1];simp;omega
  have gt1:g1.get h.next=some [.int .i64 t.lit,.int .i64 t.len,.int .i64 t.vG]:=by rw[eg1,vo rfl,vh rfl];rfl
  have gk1:∀j,j<h.next→g1.get j=h.get j:=fun j hj=>by rw[eg1,uY (by omega),u9 (by omega)]
  have gk2:∀j,j<h.next→g2.get j=h.get j:=fun j hj=>by rw[eg2,uY (by omega),uY (by omega),u9 (by simp;omega),u9 (by omega),gk1 j hj]
  have x2:WX h0 g2 w bs ov:=x.turn (by rw[eg2,eg1];simp) (by omega) gk2
  have ga:g2.get g1.next=some [.int .i64 S,.int .i64 B,.int .i64 V]:=by rw[eg2,uY (by omega),vo rfl,u9 (by simp),vh rfl];rfl
  have gb:g2.get (g1.next+1)=some [.int .i64 S',.int .i64 B',.int .i64 V']:=by rw[eg2,vo rfl,uY (by omega),vh (by simp)];rfl
  have hA:((g1.alloc [.int .i64 0,.int .i64 0,.int .i64 0]).alloc [.int .i64 0,.int .i64 0,.int .i64 0]).get g1.next=some [.int .i64 0,.int .i64 0,.int .i64 0]:=by rw[u9 (by simp),vh rfl]
  have hB:(((g1.alloc [.int .i64 0,.int .i64 0,.int .i64 0]).alloc [.int .i64 0,.int .i64 0,.int .i64 0]).set g1.next [.int .i64 S,.int .i64 B,.int .i64 V]).get (g1.next+1)=some [.int .i64 0,.int .i64 0,.int .i64 0]:=by rw[uY (by omega),vh (by simp)]
  have hw:=h.lt _ _ x.wr.get
  have hov:∀j,h.next≤j→ov.id?≠some j:=fun j hj q=>by have:=(x.wr.own.lt q).2;omega
  obtain⟨h3,o3,k3,x3,nx3,kp3,id3⟩:=GD rl x2 S B V oS (by omega) hV (by omega)
  have gb3:h3.get (g1.next+1)=some [.int .i64 S',.int .i64 B',.int .i64 V']:=(kp3 _ (by omega) (by omega) (hov _ (by omega))).trans gb
  have cl:(u4 E S++vb V B).length≤20:=by
   obtain⟨n,c,q0,q1,q2,q3,q4⟩:=oS.bits
   rw[q4];simp [vO,vb,vp];omega
  cases cp with
  | false =>
    refine⟨h3,o3, ?_,by simpa using x3⟩
    rw[n1]
    clear rd rl rx a1 a2 a3 x x2 x3 kp3 id3 gk1 gk2 hov hcp
    simp (disch:=omega)only[go_sem,vr,AP.f339L0,ci,b1,b2,←eg1,gt1,ks,hA,hB,←eg2,ga,k3,JR,uH,Rx,Q9]
  | true =>
    obtain⟨oS',hB',hV'⟩:=hcp rfl
    obtain⟨h4,o4,k4,x4,_,_,_⟩:=GD rx x3 S' B' V' oS' (by omega) hV' (by rw[uU];omega)
    refine⟨h4,o4, ?_,by rw[if_pos rfl,←Q2];exact x4⟩
    rw[n1]
    clear rd rl rx a1 a2 a3 x x2 x3 x4 kp3 id3 gk1 gk2 hov hcp
    simp (disch:=omega)only[go_sem,vr,AP.f339L0,ci,b1,b2,←eg1,gt1,ks,hA,hB,←eg2,ga,k3,gb3,k4,JR,uH,Rx,Q9]
 rcases o with ⟨c0,h2,h3⟩|⟨h1,h2,h3,h4,h5,h6⟩
 · obtain⟨y,hy⟩:∃y:Nat,t.lit=y:=QX h2
   have yt:t.lit.toNat=y:=by omega
   rw[yt]at h3
   obtain⟨h',ov',k,xx⟩:=step y 0 0 0 0 0 false (fun g=>by
    rw[hy,c0];exact F0 g y t.vG) h3 (by omega) (by omega) (fun q=>by cases q)
   refine⟨h',ov',k, ?_⟩
   rw[vB,if_pos c0,yt]
   simpa [vb,A8]using xx
 · obtain⟨L,hL⟩:∃y:Nat,t.len=y:=QX (by omega)
   obtain⟨K,hK⟩:∃y:Nat,t.vG=y:=QX (by omega)
   have Lt:t.len.toNat=L:=by omega
   have Kt:t.vG.toNat=K:=by omega
   rw[Lt]at h5
   rw[Kt]at h6
   have lb:=Ee (k:=L) (by omega) (by omega)
   have db:=D6 (k:=K) (by omega) (by omega)
   obtain⟨h',ov',k,xx⟩:=step (wV L) (yU L) (zQ L) (xp K) (zF K) (Ao K) true (fun g=>by
    rw[tl (by omega),hL,hK];exact DT g L K (by omega) (by omega) (by omega) (by omega)) h5 lb.1 lb.2 (fun _=>⟨h6,db.1,db.2⟩)
   refine⟨h',ov',k, ?_⟩
   rw[vB,if_neg (by omega),Lt,Kt]
   simpa [Q2]using xx
theorem DL {v lv dv:AV} {ts:List Tok} {E D:List (Int×Int)} (hn:ts.length<1000000) (h0:H) (rd:xQ 3 h0 v ts.length (vI ts)) (rl:xQ 2 h0 lv E.length (E.flatMap wq)) (rx:xQ 2 h0 dv D.length (D.flatMap wq)) (ok:∀t∈ts,F8 E D t∧xm t∧(t.len≠0→t.lit=0)) (w:Nat):∀(q p:List Tok) (bs:List Nat) (h:H) (ov:AV),ts=p++q→WX h0 h w bs ov→bs.length+48* q.length≤65000→
 ∃h' ov',Lp AP.A [0,2,3,14,15,16] AP.f339L0 [(0,.aC w 0),(2,lv),(3,dv),(14,v),(15,.int .i64 ts.length),(16,.int .i64 p.length)] h=some (.exit 0,[(0,.aC w 0),(2,lv),(3,dv),(14,v),(15,.int .i64 ts.length),(16,.int .i64 ts.length),(17,.bool false)],h')∧WX h0 h' w (bs++vP E D q) ov'
 | [], p, bs, h, ov, hp, x, hb => by
   rw[Q8]at hp;subst hp
   refine⟨h,ov,sM ?_,by simpa [vP]using x⟩
   simp (disch:=omega)only[go_sem,vr,AP.f339L0]
 | t :: q, p, bs, h, ov, hp, x, hb => by
   have ht:ts[p.length]?=some t:=by rw[hp];simp
   obtain⟨o1,o2,o3⟩:=ok t (by rw[hp];simp)
   obtain⟨h1,ov1,k1,x1⟩:=Ib hn h0 rd rl rx w p.length t ht o1 o2 o3 h bs ov x (by simp only[QQ]at hb;omega)
   have bl:=BD o1
   obtain⟨h',ov',L,x2⟩:=DL hn h0 rd rl rx ok w q (p++[t]) _ h1 ov1 (by rw[hp];simp) x1 (by simp only[QQ,uU]at hb ⊢;omega)
   have e3:(p++[t]).length=p.length+1:=by simp
   rw[e3]at L
   refine⟨h',ov',sN k1 L, ?_⟩
   have:vP E D (t::q)=vB E D t++vP E D q:=by simp [vP]
   rw[this,←Q2];exact x2
theorem Hm {v lv dv:AV} {ts:List Tok} {E D:List (Int×Int)} (hn:ts.length<1000000) (h0:H) (rd:xQ 3 h0 v ts.length (vI ts)) (rl:xQ 2 h0 lv E.length (E.flatMap wq)) (rx:xQ 2 h0 dv D.length (D.flatMap wq)) (ok:∀t∈ts,F8 E D t∧xm t∧(t.len≠0→t.lit=0)) (o256:Ac E 256) (w:Nat) (bs:List Nat) (h:H) (ov:AV) (x:WX h0 h w bs ov) (hb:bs.length+48* ts.length≤65000):
 ∃h',aQ AP.A 339 [.aC w 0,v,lv,dv] h=some (.str (bytesOf (vi (bs++(vP E D ts++u4 E 256)))),h'):=by
 have ln:=rd.len
 obtain⟨h1,o1,L,x1⟩:=DL hn h0 rd rl rx ok w ts [] bs h ov rfl x hb
 have L':Lp AP.A [0,2,3,14,15,16] AP.f339L0 [(0,.aC w 0),(2,lv),(3,dv),(14,v),(15,.int .i64 ts.length),(16,.int .i64 0)] h=_:=L
 have bl:=zC (E:=E) (D:=D) (ts:=ts) fun t ht=>(ok t ht).1
 obtain⟨h2,o2,k2,x2,_⟩:=GD rl x1 256 0 0 o256 (by omega) (by omega) (by rw[uU];omega)
 have k3:=Hl x2.wr
 have e:bs++vP E D ts++(u4 E 256++vb 0 0)=bs++(vP E D ts++u4 E 256):=by simp [vb,A8]
 rw[e]at k3
 have k2':aQ AP.A 350 [.aC w 0,lv,.agg [.int .i64 256,.int .i64 0,.int .i64 0]] h1=some (.bJ [],h2):=k2
 refine⟨h2,s7 (fn:=AP.f339) (e:=[(8,.str (bytesOf (vi (bs++(vP E D ts++u4 E 256)))))]) (vs:=[.str (bytesOf (vi (bs++(vP E D ts++u4 E 256))))]) rfl rfl rfl ?_ rfl⟩
 clear x1 x2 rd rl rx ok x
 generalize bytesOf (vi (bs++(vP E D ts++u4 E 256)))=TX at *
 simp (disch:=omega)only[go_sem,vr,AP.f339,ln,rK,L',k2',k3]
theorem zT (c:ae) (e:Env) (h:H) (x y:X):ah c e h (.mn [x,y])=cU h (lJ (x.ev e) (y.ev e)):=by
 show(fO lJ (x.ev e) [y.ev e]).bind _=_
 simp only[fO]
 cases lJ (x.ev e) (y.ev e)<;>rfl
def Eg (a b:Int):Int:=if b<a then b else a
theorem yz (k:IntKind) (a b:Int):lJ (.int k a) (.int k b)=some (.int k (Eg a b)):=rfl
structure Tx (hb h:H) (x:Nat) (ov:AV) (out:List Nat):Prop where
 ext:Ext hb h
 fl:h.floor=hb.next
 Ij:h.floor≤h.next
 gx:h.get x=some [ov]
 lx:hb.next≤x
 own:vQ 1 h ov out.length (xR out)
 nx:ov.id?≠some x
 GU:JN out
theorem Tx.push {hb h:H} {x:Nat} {ov:AV} {out:List Nat} (v:Tx hb h x ov out) (b:Nat) (hb8:b<256) (hl:out.length<100000):∃h1 v1,j9 (h.alloc [.int .u8 b]) 1 1 ov (.aD h.next 0 1 1)=some (v1,h1)∧v1.sc=true∧v1.cells=[v1]∧h1.get x=some [ov]∧h1.floor≤x∧Tx hb (h1.set x [v1]) x v1 (out++[b])∧h.next≤(h1.set x [v1]).next∧∀i,i<h.next→i≠x→ov.id?≠some i→(h1.set x [v1]).get i=h.get i:=by
 obtain⟨v1,h1,p1,p2,p3,p4,p5,p6⟩:=v.own.push v.Ij (z:=1) (m:=1) (by omega) (by omega) [.int .u8 b] rfl rfl (zt (by omega))
 have lx:=h.lt _ _ v.gx
 have fl:=v.fl
 have vlx:=v.lx
 have g1:h1.get x=some [ov]:=by rw[p5 x v.nx lx,v.gx]
 refine⟨h1,v1,p1,p2.sc,p2.cells,g1,by omega,⟨fun i c hi=> ?_,by simp;omega,by simp;have:=v.Ij;omega,by rw[vo rfl,g1];rfl,v.lx, ?_, ?_,fun y hy=> ?_⟩,by simp;omega,fun i h1' h2 h3=>by rw[uY h2,p5 i h3 h1']⟩
 · have l1:=hb.lt _ _ hi
   have e:=v.ext i c hi
   have l2:=h.lt _ _ e
   rw[uY (by omega),p5 i (fun q=>by have:=(v.own.lt q).1;omega) l2,e]
 · rw[EP,uU]
   exact p2.mono (by simp) fun j hj=>by
    rw[p6]at hj
    have:=uh hj
    rw[uY (by omega)]
 · rw[p6];intro q;have:=uh q;omega
 · rcases Re.1 hy with q|q
   · exact v.GU y q
   · simp at q;omega
theorem DE {hb : H} {x c L D : Nat} {l0 : AV} (hL : L ≤ 258) (hD1 : 1 ≤ D) : ∀ (m j : Nat) (out : List Nat) (h : H) (ov : AV), j + m = L → D ≤ out.length → out.length + m ≤ 10000 → Tx hb h x ov out → h.get c = some [l0, .int .i64 L, .int .i64 D] → c ≠ x → ov.id? ≠ some c →
 ∃h' ov',Lp AP.A [0,3,82,83] AP.f353L0 [(0,.aC x 0),(3,.aC c 0),(82,.int .i64 L),(83,.int .i64 j)] h=some (.exit 0,[(0,.aC x 0),(3,.aC c 0),(82,.int .i64 L),(83,.int .i64 L),(84,.bool false)],h')∧Tx hb h' x ov' (HQ D m out)∧h.next≤h'.next
 | 0, j, out, h, ov, hj, hDo, hs, v, gc, hcx, hoc => by
   obtain rfl:j=L:=by omega
   refine⟨h,ov,sM ?_,v,uy _⟩
   simp (disch:=omega)only[go_sem,vr,AP.f353L0]
 | m + 1, j, out, h, ov, hj, hDo, hs, v, gc, hcx, hoc => by
   have cj:(j:Int)<(L:Int):=by omega
   have gx:=v.gx
   have lc:=h.lt _ _ gc
   obtain⟨y,hy⟩:∃y,out[out.length-D]?=some y:=⟨_,QR (by omega)⟩
   have gy:=NV hy
   have gd:out.getD (out.length-D) 0=y:=by rw[QP,hy];rfl
   have y8:=v.GU y (uE hy)
   obtain⟨h1,v1,p1,p2,p3,p4,p5,t1,n1,k1⟩:=v.push y y8 (by omega)
   obtain ⟨h', ov', L', t2, n2⟩ := DE hL hD1 m (j + 1) (out ++ [y]) (h1.set x [v1]) v1 (by omega) (by simp; omega) (by simp; omega) t1 (by rw [k1 c lc hcx hoc, gc]) hcx (fun q => by
    have:=t1.own.lt q
    have e:=t1.nx
    have:(h1.set x [v1]).get c=h.get c:=k1 c lc hcx hoc
    have q2:=t1.own.2
    rcases q2 with ⟨q3,_⟩|⟨i2,q3,q4,_⟩
    · rw[q3]at q;cases q
    · rw [q3] at q
      obtain rfl:=uh q
      rw[this,gc]at q4
      have:=Rt List.length (uh q4)
      have q5:=uh q4
      cases hbo:xR (out++[y])with
      |nil=>rw[hbo]at q5;cases q5
      | cons a r =>
        cases hout:out with
        |nil=>rw[hout]at hDo;simp at hDo;omega
        | cons o r2 =>
          have hl:(xR (out++[y])).length=3:=by rw[←q5];rfl
          have e2:(xR (out++[y]))[1]?=some (.int .i64 L):=by rw[←q5];rfl
          have e3:∃z:Nat,(xR (out++[y]))[1]?=some (.int .u8 z):=by
           simp only[xR,uJ]
           rw[K9]at hl
           rw[QR (by omega)]
           exact⟨_,rfl⟩
          obtain⟨z,e3⟩:=e3
          rw[e2]at e3
          cases uh e3)
   have e1:((j+1:Nat):Int)=(j:Int)+1:=by omega
   have e2:(out.length:Int)-(D:Int)=((out.length-D:Nat):Int):=by omega
   have bl:=K9 out
   rw[HQ,gd]
   refine⟨h',ov',sN ?_ L',t2,by omega⟩
   rw[e1]
   rcases v.own.2 with ⟨_,q⟩|⟨id,q1,q2,q3,q4⟩
   · omega
   subst q1
   have ib:cG (.int .i64 ((out.length:Int)-(D:Int))) out.length=some (out.length-D):=by
    rw[e2]
    have:((out.length-D:Nat):Int)<out.length:=by omega
    simp [cG,nh,this]
   have dl:(D:Int)≤100000:=by omega
   clear v t1 t2 L' k1 hoc e2
   generalize xR out=BO at *
   simp (disch:=omega)only[go_sem,vr,AP.f353L0,cj,gx,gc,yM,ib,q2,gy,bl,p1,p2,p3,p4,p5]
def GK (out:List Nat) (t:Tok):Option (List Nat):=match vS out.length t with
 |none=>none
 |some s'=>if 8192<s' then none else some (vC out t)
theorem Nu {hb h : H} {x : Nat} {ov : AV} {out : List Nat} (v : Tx hb h x ov out) (t : Tok) (hl : out.length ≤ 8192) :
 ∃h' ov',aQ AP.A 353 [.aC x 0,.agg [.int .i64 t.lit,.int .i64 t.len,.int .i64 t.vG]] h=some (.bool (GK out t).isSome,h')∧Tx hb h' x ov' ((GK out t).getD out)∧h.next≤h'.next:=by
 obtain⟨g,eg⟩:∃g,g=h.alloc [.int .i64 t.lit,.int .i64 t.len,.int .i64 t.vG]:=⟨_,rfl⟩
 have lx:=h.lt _ _ v.gx
 have gn:g.next=h.next+1:=by rw[eg];simp
 have gk:∀i,i<h.next→g.get i=h.get i:=fun i hi=>by rw[eg,u9 (by omega)]
 have gc:g.get h.next=some [.int .i64 t.lit,.int .i64 t.len,.int .i64 t.vG]:=by rw[eg,vh rfl]
 have v1:Tx hb g x ov out:=⟨fun i c hi=>by
  have e:=v.ext i c hi
  have:=h.lt _ _ e
  rw[gk i this,e],by rw[eg];simpa using v.fl,by rw[gn,eg];have:=v.Ij;simp;omega,by rw[gk x lx,v.gx],v.lx,v.own.mono (by rw[eg];simp) fun i hi=>gk i (v.own.lt hi).2,v.nx,v.GU⟩
 have gx:=v1.gx
 have hov:ov.id?≠some h.next:=fun q=>by have:=(v.own.lt q).2;omega
 have ln:iG false ov=some (.int .i64 out.length):=v.own.rd.len
 unfold GK vS
 by_cases c0:t.len=0
 · rw [if_pos c0]
   rw[c0]at eg gc
   rw[c0]
   by_cases c1:t.lit<0∨255<t.lit∨t.vG≠0
   · rw [if_pos c1]
     refine⟨g,ov,s7 (fn:=AP.f353) (e:=[(4,.bool false)]) (vs:=[.bool false]) rfl rfl rfl ?_ rfl,v1,by omega⟩
     clear v v1
     by_cases d1:t.lit<0
     · simp (disch:=omega)only[go_sem,vr,AP.f353,←eg,gc,d1]
     · by_cases d2:255<t.lit
       · simp (disch:=omega)only[go_sem,vr,AP.f353,←eg,gc,d1,d2]
       · have d3:(t.vG !=0)=true:=by simp;omega
         simp (disch:=omega)only[go_sem,vr,AP.f353,←eg,gc,d1,d2,d3]
   · rw[if_neg c1]
     have d1:¬t.lit<0:=by omega
     have d2:¬255<t.lit:=by omega
     have d3:(t.vG !=0)=false:=by simp;omega
     by_cases c2:(8192:Int)<(out.length:Int)+1
     · simp only[if_pos c2]
       refine⟨g,ov,s7 (fn:=AP.f353) (e:=[(4,.bool false)]) (vs:=[.bool false]) rfl rfl rfl ?_ rfl,v1,by omega⟩
       have d4:(8192:Int)≤(out.length:Int):=by omega
       clear v v1
       simp (disch:=omega)only[go_sem,vr,AP.f353,←eg,gc,d1,d2,d3,gx,ln,d4]
     · simp only[if_neg c2]
       obtain⟨b,hb8⟩:∃b:Nat,t.lit=b:=QX (by omega)
       obtain⟨h1,w1,p1,p2,p3,p4,p5,t1,n1,k1⟩:=v1.push b (by omega) (by omega)
       have eo:vC out t=out++[b]:=by unfold vC;rw[if_pos c0,hb8];rfl
       refine⟨h1.set x [w1],w1,s7 (fn:=AP.f353) (e:=[(4,.bool true)]) (vs:=[.bool true]) rfl rfl rfl ?_ rfl,by simp only[Option.getD_some];rw[eo];exact t1,by omega⟩
       have d4:¬(8192:Int)≤(out.length:Int):=by omega
       rw[hb8]at gc d1 d2 eg ⊢
       have wb1:IntKind.wrap .u8 (b:Int)=b:=Qa (by omega)
       clear v v1 t1 k1
       simp (disch:=omega)only[go_sem,vr,AP.f353,←eg,gc,d1,d2,d3,gx,ln,d4,wb1,p1,p2,p3,p4,p5]
 · rw [if_neg c0]
   have cb:(t.len==0)=false:=by simp;omega
   by_cases c1:t.len<3∨258<t.len∨t.vG<1∨32768<t.vG∨(out.length:Int)<t.vG∨t.lit≠0
   · rw [if_pos c1]
     refine⟨g,ov,s7 (fn:=AP.f353) (e:=[(4,.bool false)]) (vs:=[.bool false]) rfl rfl rfl ?_ rfl,v1,by omega⟩
     clear v v1
     by_cases d1:t.lit=0
     · have d1':(t.lit !=0)=false:=by simp [d1]
       by_cases d2:t.len<3
       · simp (disch:=omega)only[go_sem,vr,AP.f353,←eg,gc,cb,d1',d2]
       · by_cases d3:258<t.len
         · simp (disch:=omega)only[go_sem,vr,AP.f353,←eg,gc,cb,d1',d2,d3]
         · by_cases d4:t.vG<1
           · simp (disch:=omega)only[go_sem,vr,AP.f353,←eg,gc,cb,d1',d2,d3,d4]
           · have d5:Eg out.length 32768<t.vG:=by unfold Eg;split<;>omega
             simp (disch:=omega)only[go_sem,vr,AP.f353,←eg,gc,cb,d1',d2,d3,d4,gx,ln,zT,yz,d5]
     · have d1':(t.lit !=0)=true:=by simp [d1]
       simp (disch:=omega)only[go_sem,vr,AP.f353,←eg,gc,cb,d1']
   · rw [if_neg c1]
     have d1:(t.lit !=0)=false:=by simp;omega
     have d2:¬t.len<3:=by omega
     have d3:¬258<t.len:=by omega
     have d4:¬t.vG<1:=by omega
     have d5:¬Eg out.length 32768<t.vG:=by unfold Eg;split<;>omega
     by_cases c2:(8192:Int)<(out.length:Int)+t.len
     · simp only[if_pos c2]
       refine⟨g,ov,s7 (fn:=AP.f353) (e:=[(4,.bool false)]) (vs:=[.bool false]) rfl rfl rfl ?_ rfl,v1,by omega⟩
       have sb:t.len≤258:=by omega
       have sb2:0≤t.len:=by omega
       clear v v1
       simp (disch:=omega)only[go_sem,vr,AP.f353,←eg,gc,cb,d1,d2,d3,d4,gx,ln,zT,yz,d5,c2]
     · simp only[if_neg c2]
       obtain⟨L,hL⟩:∃y:Nat,t.len=y:=QX (by omega)
       obtain⟨D,hD⟩:∃y:Nat,t.vG=y:=QX (by omega)
       rw[hL,hD]at gc eg
       obtain⟨h',ov',L1,t2,n2⟩:=DE (hb:=hb) (c:=h.next) (l0:=.int .i64 t.lit) (L:=L) (D:=D) (by omega) (by omega) L 0 out g ov (by omega) (by omega) (by omega) v1 gc (by omega) hov
       have L1':Lp AP.A [0,3,82,83] AP.f353L0 [(0,.aC x 0),(3,.aC h.next 0),(82,.int .i64 L),(83,.int .i64 0)] g=_:=L1
       have eo:vC out t=HQ D L out:=by
        unfold vC;rw[if_neg c0,hL,hD];rfl
       refine⟨h',ov',s7 (fn:=AP.f353) (e:=[(4,.bool true)]) (vs:=[.bool true]) rfl rfl rfl ?_ rfl,by simp only[Option.getD_some];rw[eo];exact t2,by omega⟩
       rw[hL]at cb d2 d3 c2 ⊢
       rw[hD]at d4 d5 ⊢
       have sb:L≤258:=by omega
       clear v v1 t2 L1
       simp (disch:=omega)only[go_sem,vr,AP.f353,←eg,gc,cb,d1,d2,d3,d4,gx,ln,zT,yz,d5,c2,rK,L1']
theorem zM {out:List Nat} {t:Tok} {s':Int} (h:vS out.length t=some s'):((vC out t).length:Int)=s':=by
 unfold vS at h
 unfold vC
 by_cases c:t.len=0
 · rw[if_pos c]at h ⊢
   split at h
   · cases h
   · have:=uh h;simp;omega
 · rw[if_neg c]at h ⊢
   split at h
   · cases h
   · have:=uh h;rw[BI];omega
theorem G5 : ∀ (ts : List Tok) (out : List Nat), vt out.length ts = true → out.length ≤ 8192 → (wk ts out).length ≤ 8192
 |[],_,_,h=>h
 | t :: r, out, hm, _ => by
   unfold vt at hm
   cases e:vS out.length t with
   |none=>rw[e]at hm;cases hm
   | some s' =>
     rw[e]at hm
     have l:=zM e
     by_cases c:8192<s'
     · simp only[if_pos c]at hm;cases hm
     · simp only[if_neg c]at hm
       rw[←l]at hm
       exact G5 r (vC out t) hm (by omega)
theorem Gl {ts:List Tok} {t:ByteArray} (h:xg ts=some t):t.size≤8192:=by
 unfold xg at h
 split at h
 · rename_i c
   rw[←uh h,vR]
   exact G5 ts [] c (by simp)
 · cases h
theorem EF {hb : H} {x : Nat} {v : AV} {ts : List Tok} (hn : ts.length < 1125899906842624) (rd : xQ 3 hb v ts.length (vI ts)) : ∀ (q p : List Tok) (out : List Nat) (h : H) (ov : AV), ts = p ++ q → Tx hb h x ov out → out.length ≤ 8192 →
 (vt out.length q=true→∃h' ov' e',Lp AP.A [5,10,11,12] AP.f343L0 [(5,.fn 353 [.aC x 0] []),(10,v),(11,.int .i64 ts.length),(12,.int .i64 p.length)] h=some (.exit 0,e',h')∧Tx hb h' x ov' (wk q out)∧(wk q out).length≤8192)∧
 (vt out.length q=false→∃h',Lp AP.A [5,10,11,12] AP.f343L0 [(5,.fn 353 [.aC x 0] []),(10,v),(11,.int .i64 ts.length),(12,.int .i64 p.length)] h=some (.ret,[(4,.bool false)],h'))
 | [], p, out, h, ov, hp, t, hl => by
   rw[Q8]at hp;subst hp
   refine⟨fun _=>⟨h,ov,[(5,.fn 353 [.aC x 0] []),(10,v),(11,.int .i64 ts.length),(12,.int .i64 ts.length),(13,.bool false)],sM ?_,t,hl⟩,fun q=>by cases q⟩
   simp (disch:=omega)only[go_sem,vr,AP.f343L0]
 | k :: q, p, out, h, ov, hp, t, hl => by
   have hlen:ts.length=p.length+(q.length+1):=by rw[hp];simp
   have hk:ts[p.length]?=some k:=by rw[hp];simp
   obtain⟨ad,a1,a2,a3⟩:=rd.NJ
   have b1:=a1 p.length ⟨by omega,by omega⟩
   obtain⟨_,_,_,b2⟩:=a3 h t.ext _ _ hk
   have c1:((p.length:Nat):Int)<ts.length:=by omega
   obtain⟨g,eg⟩:∃g,g=(h.alloc [.int .i64 0,.int .i64 0,.int .i64 0]).set h.next [.int .i64 k.lit,.int .i64 k.len,.int .i64 k.vG]:=⟨_,rfl⟩
   have gg:g.get h.next=some [.int .i64 k.lit,.int .i64 k.len,.int .i64 k.vG]:=by rw[eg,vo rfl,vh rfl];rfl
   have gn:g.next=h.next+1:=by rw[eg];simp
   have gk:∀i,i<h.next→g.get i=h.get i:=fun i hi=>by rw[eg,uY (by omega),u9 (by omega)]
   have fl1:h.floor≤h.next:=t.Ij
   have lx:=h.lt _ _ t.gx
   have tg:Tx hb g x ov out:=⟨fun i c hi=>by
    have e:=t.ext i c hi
    have:=h.lt _ _ e
    rw[gk i this,e],by rw[eg];simpa using t.fl,by rw[gn,eg];simp;omega,by rw[gk x lx,t.gx],t.lx,t.own.mono (by rw[eg];simp) fun i hi=>gk i (t.own.lt hi).2,t.nx,t.GU⟩
   obtain⟨h1,ov1,k1,t1,_⟩:=Nu tg k hl
   have k1':jZ (aQ AP.A) [.agg [.int .i64 k.lit,.int .i64 k.len,.int .i64 k.vG]] g (.fn 353 [.aC x 0] [])=some (.bool (GK out k).isSome,h1):=k1
   cases hs:GK out k with
   | none =>
     have hm:vt out.length (k::q)=false:=by
      unfold GK at hs
      rw[vt]
      cases e:vS out.length k with
      |none=>rfl
      | some s' =>
        rw[e]at hs
        simp only at hs ⊢
        by_cases c:8192<s'
        · rw[if_pos c]
        · rw[if_neg c]at hs;cases hs
     refine⟨fun q=>(by rw[hm]at q;cases q),fun _=>⟨h1,tq ?_⟩⟩
     rw[hs]at k1'
     have k2:aQ AP.A 353 ([.aC x 0]++[.agg [.int .i64 k.lit,.int .i64 k.len,.int .i64 k.vG]]++[]) g=some (.bool false,h1):=k1'
     simp only[List.cons_append,List.nil_append,Q8]at k2
     clear t tg t1 a1 a2 a3 rd
     simp (disch:=omega)only[go_sem,vr,AP.f343L0,c1,b1,b2,←eg,gg,k2,JR,uH,Rx,Q9]
   | some o' =>
     rw[hs]at t1 k1'
     simp only[Option.getD_some]at t1
     have key:∃s',vS out.length k=some s'∧¬8192<s'∧o'=vC out k:=by
      unfold GK at hs
      cases e:vS out.length k with
      |none=>rw[e]at hs;cases hs
      | some s' =>
        rw[e]at hs
        simp only at hs
        by_cases c:8192<s'
        · rw[if_pos c]at hs;cases hs
        · rw[if_neg c]at hs
          exact⟨s',rfl,c,(uh hs).symm⟩
     obtain⟨s',e1,e2,e3⟩:=key
     have el:=zM e1
     rw[←e3]at el
     have hm:vt out.length (k::q)=vt o'.length q:=by
      rw[vt,e1]
      simp only[if_neg e2,el]
     have ee:wk (k::q) out=wk q o':=by rw[wk,e3]
     rw[hm,ee]
     have k2:aQ AP.A 353 ([.aC x 0]++[.agg [.int .i64 k.lit,.int .i64 k.len,.int .i64 k.vG]]++[]) g=some (.bool true,h1):=k1'
     simp only[List.cons_append,List.nil_append,Q8]at k2
     obtain⟨r1,r2⟩:=EF hn rd q (p++[k]) o' h1 ov1 (by rw[hp];simp) t1 (by omega)
     have w1:((p++[k]).length:Int)=(p.length:Int)+1:=by simp
     rw[w1]at r1 r2
     have st:aK (aQ AP.A) bo AP.f343L0 (ax [(5,.fn 353 [.aC x 0] []),(10,v),(11,.int .i64 ts.length),(12,.int .i64 p.length)] [5,10,11,12]) h=some (.normal,[(5,.fn 353 [.aC x 0] []),(10,v),(11,.int .i64 ts.length),(12,.int .i64 ((p.length:Int)+1))],h1):=by
      clear t tg t1 a1 a2 a3 rd r1 r2
      simp (disch:=omega)only[go_sem,vr,AP.f343L0,c1,b1,b2,←eg,gg,k2,JR,uH,Rx,Q9]
     refine⟨fun z=> ?_,fun z=> ?_⟩
     · obtain⟨h',ov',e',L,q1,q2⟩:=r1 z
       exact⟨h',ov',e',sN st L,q1,q2⟩
     · obtain⟨h',L⟩:=r2 z
       exact⟨h',sN st L⟩
theorem DG (h:H) (v:AV) (ts:List Tok) (hn:ts.length<1125899906842624) (rd:xQ 3 h v ts.length (vI ts)):aQ AP.A 328 [v] h=some (Mj (xg ts),h):=by
 have yx:xQ 3 h.dG v ts.length (vI ts):=rd.mono fun i c q=>q
 have ln:=rd.len
 obtain⟨g,eg⟩:∃g,g=h.dG.alloc [.aO]:=⟨_,rfl⟩
 have gx:g.get h.next=some [.aO]:=by rw[eg,vh (by simp)]
 have t0:Tx h.dG g h.next .aO []:=⟨by rw[eg];exact(Ext.refl _).alloc _,by rw[eg];simp,by rw[eg];simp,gx,by simp,vQ.nil,by simp [AV.id?],fun y hy=>by simp at hy⟩
 obtain⟨r1,r2⟩:=EF hn yx ts [] [] g .aO rfl t0 (by simp)
 have hN:h.dG.next=h.next:=rfl
 unfold xg
 by_cases hm:vt 0 ts=true
 · rw[if_pos hm]
   obtain⟨h',ov',e',L,t1,_⟩:=r1 hm
   have L':Lp AP.A [5,10,11,12] AP.f343L0 [(5,.fn 353 [.aC h.next 0] []),(10,v),(11,.int .i64 ts.length),(12,.int .i64 0)] g=some (.exit 0,e',h'):=L
   have k:aQ AP.A 343 [.aC h.next 0,v] g=some (.bool true,h'):=by
    refine s7 (fn:=AP.f343) (e:=[(4,.bool true)]) (vs:=[.bool true]) rfl rfl rfl ?_ rfl
    clear t1 t0 rd yx r1 r2
    simp (disch:=omega)only[go_sem,vr,AP.f343,ln,rK,L']
   have b:=EH t1.own
   have g1:=t1.gx
   refine tE (fn:=AP.f328) (h2:=h') (e:=[(2,.str (bytesOf (wk ts []))),(3,.int .i64 0)]) (vs:=[.str (bytesOf (wk ts [])),.int .i64 0]) rfl rfl rfl ?_ rfl rfl
   clear t1 t0 rd yx r1 r2 L L'
   generalize bytesOf (wk ts [])=B at *
   simp (disch:=omega)only[go_sem,vr,AP.f328,←eg,hN,k,g1,b]
 · rw[if_neg hm]
   obtain⟨h',L⟩:=r2 (Bool.eq_false_iff.2 hm)
   have L':Lp AP.A [5,10,11,12] AP.f343L0 [(5,.fn 353 [.aC h.next 0] []),(10,v),(11,.int .i64 ts.length),(12,.int .i64 0)] g=some (.ret,[(4,.bool false)],h'):=L
   have k:aQ AP.A 343 [.aC h.next 0,v] g=some (.bool false,h'):=by
    refine s7 (fn:=AP.f343) (e:=[(4,.bool false)]) (vs:=[.bool false]) rfl rfl rfl ?_ rfl
    clear t0 rd yx r1 r2
    simp (disch:=omega)only[go_sem,vr,AP.f343,ln,rK,L']
   refine tE (fn:=AP.f328) (h2:=h') (e:=[(2,.str ⟨#[]⟩),(3,.int .i64 500)]) (vs:=[.str ⟨#[]⟩,.int .i64 500]) rfl rfl rfl ?_ rfl rfl
   clear t0 rd yx r1 r2 L L'
   simp (disch:=omega)only[go_sem,vr,AP.f328,←eg,hN,k]
theorem GC (h:H) (v:AV) (ts:List Tok) (hn:ts.length<1125899906842624) (rd:xQ 3 h v ts.length (vI ts)):aQ AP.A 337 [v] h=some (.bool (yf ts),h):=by
 have k:=DG h.dG v ts hn (rd.mono fun i c q=>q)
 unfold yf
 cases he:xg ts with
 | none =>
   rw[he]at k
   simp only[Mj]at k
   refine tE (fn:=AP.f337) (h2:=h.dG) (e:=[(2,.bool false)]) (vs:=[.bool false]) rfl rfl rfl ?_ rfl rfl
   have cb:((500:Int)==0)=false:=by decide
   clear rd
   simp (disch:=omega)only[go_sem,vr,AP.f337,k,cb]
 | some t =>
   rw[he]at k
   have:=Gl he
   simp only[Mj]at k
   refine tE (fn:=AP.f337) (h2:=h.dG) (e:=[(2,.bool (decide (t.size≤300)))]) (vs:=[.bool (decide (t.size≤300))]) rfl rfl rfl ?_ rfl rfl
   have cb:((0:Int)==0)=true:=by decide
   clear rd
   by_cases c:t.size≤300
   · have c':(t.size:Int)≤300:=by omega
     simp (disch:=omega)only[go_sem,vr,AP.f337,k,QV c,c',cb]
   · have c':¬(t.size:Int)≤300:=by omega
     simp (disch:=omega)only[go_sem,vr,AP.f337,k,QT c,c',cb]
theorem Dy (s : ByteArray) (i d : Nat) (hs : s.size < 100000) (hd : d ≤ i) (hi : i ≤ s.size) (h : H) : ∀ (f k : Nat), k + f = 258 →
 ∃e',Lp AP.A [0,1,2,7] AP.f354L0 [(0,.str s),(1,.int .i64 i),(2,.int .i64 d),(7,.int .i64 k)] h=some (.exit 0,e',h)∧look e' 7=.int .i64 (xM s i (i-d) f k:Nat)
 | 0, k, hk => by
   obtain rfl:k=258:=by omega
   refine⟨[(0,.str s),(1,.int .i64 i),(2,.int .i64 d),(7,.int .i64 258),(32,.bool false)],sM ?_,rfl⟩
   have c:¬((258:Nat):Int)<258:=by omega
   simp (disch:=omega)only[go_sem,vr,AP.f354L0,c]
 | f + 1, k, hk => by
   have n1:((k:Int)+1)=((k+1:Nat):Int):=by omega
   have c0:(k:Int)<258:=by omega
   by_cases c1:i+k<s.size
   · have c1':(i:Int)+(k:Int)<s.size:=by omega
     have x1:lG (.str s) (.int .i64 ((i:Int)+(k:Int)))=some (.int .u8 (xn s (i+k):Nat)):=by
      have:=zk (s:=s) (i:=(i:Int)+(k:Int)) ⟨by omega,by omega⟩
      rw[show((i:Int)+(k:Int)).toNat=i+k by omega]at this;exact this
     have x2:lG (.str s) (.int .i64 ((i:Int)+(k:Int)-(d:Int)))=some (.int .u8 (xn s (i-d+k):Nat)):=by
      have:=zk (s:=s) (i:=(i:Int)+(k:Int)-(d:Int)) ⟨by omega,by omega⟩
      rw[show((i:Int)+(k:Int)-(d:Int)).toNat=i-d+k by omega]at this;exact this
     by_cases c2:xn s (i+k)=xn s (i-d+k)
     · obtain⟨e',r1,r2⟩:=Dy s i d hs hd hi h f (k+1) (by omega)
       refine⟨e',sN ?_ r1, ?_⟩
       · rw[←n1]
         have cb:((xn s (i+k):Int)==(xn s (i-d+k):Int))=true:=by simp [c2]
         simp (disch:=omega)only[go_sem,vr,AP.f354L0,c0,c1',x1,x2,cb]
       · rw[r2,xM,if_pos ⟨by omega,c1,c2⟩]
     · refine⟨[(0,.str s),(1,.int .i64 i),(2,.int .i64 d),(7,.int .i64 k),(32,.bool false)],sM ?_, ?_⟩
       · have cb:((xn s (i+k):Int)==(xn s (i-d+k):Int))=false:=by simp;omega
         simp (disch:=omega)only[go_sem,vr,AP.f354L0,c0,c1',x1,x2,cb]
       · rw[xM,if_neg (fun q=>c2 q.2.2)];rfl
   · refine⟨[(0,.str s),(1,.int .i64 i),(2,.int .i64 d),(7,.int .i64 k),(32,.bool false)],sM ?_, ?_⟩
     · have c1':¬(i:Int)+(k:Int)<s.size:=by omega
       simp (disch:=omega)only[go_sem,vr,AP.f354L0,c0,c1']
     · rw[xM,if_neg (fun q=>c1 q.2.1)];rfl
theorem Nm (h:H) (s:ByteArray) (i d:Nat) (hs:s.size<100000) (hd:d≤i) (hi:i≤s.size):aQ AP.A 354 [.str s,.int .i64 i,.int .i64 d] h=some (.int .i64 (same s i (i-d):Nat),h):=by
 obtain⟨e',r1,r2⟩:=Dy s i d hs hd hi h.dG 258 0 rfl
 have r1':Lp AP.A [0,1,2,7] AP.f354L0 [(0,.str s),(1,.int .i64 i),(2,.int .i64 d),(7,.int .i64 0)] h.dG=some (.exit 0,e',h.dG):=r1
 clear r1
 refine tE (fn:=AP.f354) (h2:=h.dG) (e:=[(6,.int .i64 (same s i (i-d):Nat))]) (vs:=[.int .i64 (same s i (i-d):Nat)]) rfl rfl rfl ?_ rfl rfl
 simp (disch:=omega)only[go_sem,vr,AP.f354,rK,r1',r2,same]
def DA (b:Nat×Nat):Nat×Nat:=if b.1<3 then(0,0)else b
theorem I8 (b:Nat×Nat) (m d:Nat):DA (if b.1<m then(m,d)else b)=if 3≤m∧(DA b).1<m then(m,d)else DA b:=by
 unfold DA
 by_cases c:b.1<3
 · rw[if_pos c]
   by_cases q:b.1<m
   · rw[if_pos q]
     by_cases z:m<3
     · rw[if_pos z,if_neg (by omega)]
     · rw[if_neg z,if_pos ⟨by omega,by show 0<m;omega⟩]
   · rw[if_neg q,if_pos c,if_neg (by omega)]
 · rw[if_neg c]
   by_cases q:b.1<m
   · rw[if_pos q,if_neg (by show¬m<3;omega),if_pos ⟨by omega,q⟩]
   · rw[if_neg q,if_neg c,if_neg (fun z=>q z.2)]
theorem zW (s : ByteArray) (i : Nat) (hs : s.size < 32000) (hi : i < s.size) (v4 : AV) (c5 : Nat) : ∀ (n : Nat) (b : Nat × Nat) (d : Int) (h : H), n ≤ i → d = (i : Int) - n + 1 → h.get c5 = some [.int .i64 0, .int .i64 (DA b).1, .int .i64 (DA b).2] → h.floor ≤ c5 →
 ∃e' h',Lp AP.A [0,1,4,5,6] AP.f344L0 [(0,.str s),(1,.int .i64 i),(4,v4),(5,.aC c5 0),(6,.int .i64 d)] h=some (.exit 0,e',h')∧look e' 4=v4∧look e' 5=.aC c5 0∧h'.get c5=some [.int .i64 0,.int .i64 (DA (vF s i n b)).1,.int .i64 (DA (vF s i n b)).2]∧(∀j,j≠c5→h'.get j=h.get j)∧h'.next=h.next∧h'.floor=h.floor
 | 0, b, d, h, hn, hd, hg, hf => by
   refine⟨[(0,.str s),(1,.int .i64 i),(4,v4),(5,.aC c5 0),(6,.int .i64 d),(11,.bool false)],h,sM ?_,rfl,rfl,hg,fun _ _=>rfl,rfl,rfl⟩
   have m:Eg (i:Int) 32768=i:=by unfold Eg;rw[if_neg (by omega)]
   have c:¬d≤(i:Int):=by omega
   simp (disch:=omega)only[go_sem,vr,AP.f344L0,zT,yz,m,c]
 | n + 1, b, d, h, hn, hd, hg, hf => by
   have m:Eg (i:Int) 32768=i:=by unfold Eg;rw[if_neg (by omega)]
   have c:d≤(i:Int):=by omega
   obtain⟨D,rfl⟩:∃D:Nat,d=D:=QX (by omega)
   have k1:=fun g=>Nm g s i D (by omega) (by omega) (by omega)
   have eD:i-D=n:=by omega
   rw[eD]at k1
   have k2:=Hq s i n
   have st:=I8 b (same s i n) (i-n)
   have iD:i-n=D:=by omega
   rw[vF]
   by_cases q:3≤same s i n∧(DA b).1<same s i n
   · rw[if_pos q,iD]at st
     rw[iD]
     obtain⟨e',h',L,r1,r2,r3,r4,r5,r6⟩:=zW s i hs hi v4 c5 n (if b.1<same s i n then(same s i n,D)else b) ((D:Int)+1) (h.set c5 [.int .i64 0,.int .i64 (same s i n:Nat),.int .i64 D]) (by omega) (by omega) (by rw[vo rfl,hg,st];rfl) (by simpa using hf)
     refine⟨e',h',sN ?_ L,r1,r2,r3,fun j hj=>by rw[r4 j hj,uY hj],by rw[r5];simp,by rw[r6];simp⟩
     have q1:(3:Int)≤(same s i n:Nat):=by omega
     have q2:((DA b).1:Int)<(same s i n:Nat):=by omega
     clear L r3 r4 st
     generalize same s i n=M at *
     generalize (DA b).1=B1 at *
     generalize (DA b).2=B2 at *
     simp (disch:=omega)only[go_sem,vr,AP.f344L0,zT,yz,m,c,k1,q1,q2,hg]
   · rw[if_neg q]at st
     obtain⟨e',h',L,r1,r2,r3,r4,r5,r6⟩:=zW s i hs hi v4 c5 n (if b.1<same s i n then(same s i n,i-n)else b) ((D:Int)+1) h (by omega) (by omega) (by rw[st];exact hg) hf
     refine⟨e',h',sN ?_ L,r1,r2,r3,r4,r5,r6⟩
     clear L r3 r4 st
     generalize same s i n=M at *
     generalize (DA b).1=B1 at *
     generalize (DA b).2=B2 at *
     by_cases q1:(3:Int)≤(M:Nat)
     · have q2:¬(B1:Int)<(M:Nat):=by omega
       simp (disch:=omega)only[go_sem,vr,AP.f344L0,zT,yz,m,c,k1,q1,q2,hg]
     · simp (disch:=omega)only[go_sem,vr,AP.f344L0,zT,yz,m,c,k1,q1]
theorem Kn (h:H) (s:ByteArray) (i:Nat) (hs:s.size<32000) (hi:i<s.size):aQ AP.A 344 [.str s,.int .i64 i] h=some (.agg [.int .i64 0,.int .i64 (DA (vF s i i (0,0))).1,.int .i64 (DA (vF s i i (0,0))).2],h):=by
 obtain⟨g,eg⟩:∃g,g=(h.dG.alloc [.int .i64 0,.int .i64 0,.int .i64 0]).alloc [.int .i64 0,.int .i64 0,.int .i64 0]:=⟨_,rfl⟩
 obtain⟨e',h',L,r1,r2,r3,r4,r5,r6⟩:=zW s i hs hi (.aC h.next 0) (h.next+1) i (0,0) 1 g (uy _) (by omega) (by rw[eg,vh (by simp)];try rfl) (by rw[eg];simp;try omega)
 have g4:h'.get h.next=some [.int .i64 0,.int .i64 0,.int .i64 0]:=by rw[r4 _ (by omega),eg,u9 (by simp),vh (by simp)]
 have f1:h'.floor=h.next:=by rw[r6,eg];simp
 generalize (DA (vF s i i (0,0))).1=B1 at *
 generalize (DA (vF s i i (0,0))).2=B2 at *
 have g5:(h'.set h.next [.int .i64 0,.int .i64 B1,.int .i64 B2]).get h.next=some [.int .i64 0,.int .i64 B1,.int .i64 B2]:=by rw[vo rfl,g4];rfl
 refine tE (fn:=AP.f344) (h2:=h'.set h.next [.int .i64 0,.int .i64 B1,.int .i64 B2]) (e:=[(4,.aC h.next 0)]) (vs:=[.agg [.int .i64 0,.int .i64 B1,.int .i64 B2]]) rfl rfl rfl ?_ ?_ rfl
 · have hN:h.dG.next=h.next:=rfl
   have hN2:(h.dG.alloc [.int .i64 0,.int .i64 0,.int .i64 0]).next=h.next+1:=by simp
   clear r4
   simp (disch:=omega)only[go_sem,vr,AP.f344,hN,hN2,←eg,rK,L,r1,r2,r3,g4,f1,JR,uH,Rx,Q9]
 · simp (disch:=omega)only[go_sem,vr,AP.f344,cm,mO,g5,JR,uH,Rx,Q9]
   rfl
theorem Hn (h:H) (l:List Int):Rd h (yK (ints l)) (ints l):=by
 unfold yK
 by_cases c:ints l=[]
 · rw[if_pos c,c];exact⟨rfl,by intro s e;cases e⟩
 · rw[if_neg c]
   refine⟨by simp [aR,uP],by intro s e;cases e⟩
theorem HN (p:List Int) (x:Int) {n:Nat} (hn:1≤n):wx (p++[x]) n=wx p n+if x=(n:Int)then 1 else 0:=by
 rw[yP]
 congr 1
 by_cases c:x=(n:Int)
 · rw[if_pos ⟨by omega,c⟩,if_pos c]
 · rw[if_neg (fun q=>c q.2),if_neg c]
theorem Ce {l : List Int} (hl : l.length < 1000) (T : List AV) (v25 : AV) (id n : Nat) (hn1 : 1 ≤ n) (hn : n ≤ 15) (hT : T[n]? = some (.int .i64 (u7 l n))) : ∀ (q p : List Int) (h : H), l = p ++ q → h.floor ≤ id → h.get id = some ((wc l n p.length).flatMap wq) →
 ∃h',Lp AP.A [4,6,7,25,26,30,31,32] AP.f338L0 [(4,.aJ T 0),(6,.aD id 0 l.length 2),(7,.int .i64 n),(25,v25),(26,.int .i64 n),(30,yK (ints (syms l n))),(31,.int .i64 (wx l n)),(32,.int .i64 (wx p n))] h=some (.exit 2,[(4,.aJ T 0),(6,.aD id 0 l.length 2),(7,.int .i64 n),(25,v25),(26,.int .i64 n),(30,yK (ints (syms l n))),(31,.int .i64 (wx l n)),(32,.int .i64 (wx l n)),(33,.bool false)],h')∧h'.floor=h.floor∧h'.get id=some ((wc l n l.length).flatMap wq)
 | [], p, h, hp, hf, hg => by
   rw[Q8]at hp;subst hp
   refine⟨h,sM ?_,rfl,hg⟩
   simp (disch:=omega)only[go_sem,vr,AP.f338L0]
 | y :: q, p, h, hp, hf, hg => by
   have hlen:l.length=p.length+(q.length+1):=by rw[hp];simp
   have hy:l.getD p.length 0=y:=by rw[QP,hp];simp
   have tk:l.take p.length=p:=by rw[hp];simp
   have ls:=HN p y hn1
   have sl:(p++[y]).length=p.length+1:=by simp
   by_cases c:y=(n:Int)
   · rw[if_pos c]at ls
     have sa:=Hv (l:=l) (s:=p.length) (by omega) hn1 (hy.trans c)
     rw[tk]at sa
     have hit:=HP (l:=l) (i:=p.length) (by omega) hn1 (hy.trans c)
     rw[tk]at hit
     obtain⟨ad,a1,a2⟩:=(Hn h (syms l n)).wP
     have sc:=za l n
     have il:wx p n<wx l n:=by have:=(uu.1 sa).1;omega
     have b1:=a1 (wx p n) ⟨by omega,by omega⟩
     have b2:=a2 h (Ext.refl h) (wx p n) _ sa
     have fb:=AR (l:=l) (by omega) n
     have pw:=A7 hn
     have cl:=zJ l n
     obtain⟨h',L,f1,g1⟩:=Ce hl T v25 id n hn1 hn hT q (p++[y]) (h.set id ((wc l n (p.length+1)).flatMap wq)) (by rw[hp];simp) (by simpa using hf) (by rw[vo rfl,hg,sl];rfl)
     have st:tG h id (p.length* 2) 2 [.int .i64 (n:Int),.int .i64 (u7 l n+(wx p n:Int))] (some ((wc l n p.length).flatMap wq))=some (h.set id ((wc l n (p.length+1)).flatMap wq)):=by
      rw[JA,←hit,←IQ yl _ _ _ (by rw[AO];omega)]
      have:=AU yl (wc l n p.length)
      rw[AO]at this
      simp only[this,hf,QQ,QS,decide_true,AV.aB,AV.sc,Bool.and_true,Bool.true_and,show p.length* 2+2≤l.length* 2 by omega]
      rfl
     refine⟨h',sN ?_ L,by rw[f1];simp,g1⟩
     rw[ls]
     have n1:((wx p n+1:Nat):Int)=(wx p n:Int)+1:=by omega
     rw[n1]
     have ib:cG (.int .i64 (p.length:Nat)) l.length=some p.length:=by
      have:(p.length:Int)<l.length:=by omega
      simp [cG,nh,this]
     have il':((wx p n:Nat):Int)<(wx l n:Nat):=by omega
     clear L g1 a1 a2 hit sa ls
     generalize (wc l n (p.length+1)).flatMap wq=E2 at *
     generalize (wc l n p.length).flatMap wq=E at *
     generalize yK (ints (syms l n))=SV at *
     generalize u7 l n=F at *
     generalize wx p n=k at *
     generalize wx l n=K at *
     simp (disch:=omega)only[go_sem,vr,AP.f338L0,il',b1,b2,hT,ib,hg,st]
   · rw[if_neg c,Nat.add_zero]at ls
     have miss:=Gh (l:=l) (b:=n) (i:=p.length) (by rw[hy];exact c)
     obtain⟨h',L,f1,g1⟩:=Ce hl T v25 id n hn1 hn hT q (p++[y]) h (by rw[hp];simp) hf (by rw[sl,miss];exact hg)
     rw[ls]at L
     exact⟨h',L,f1,g1⟩
theorem I7 (l:List Int):iG false (yK (ints l))=some (.int .i64 l.length):=by
 have:=(Hn (H.empty) l).len
 rw[pf]at this;exact this
theorem Fc {l:List Int} (hl:l.length<1000) (T SS:List AV) (id:Nat) (hT:∀n,1≤n→n≤15→T[n]?=some (.int .i64 (u7 l n))) (hS:∀n,n≤15→SS[n]?=some (yK (ints (syms l n)))):∀(m n:Nat) (h:H),n+m=16→1≤n→h.floor≤id→h.get id=some ((wc l n 0).flatMap wq)→
 ∃e' h',Lp AP.A [4,6,25,26] AP.f338L1 [(4,.aJ T 0),(6,.aD id 0 l.length 2),(25,.agg SS),(26,.int .i64 n)] h=some (.exit 0,e',h')∧look e' 6=.aD id 0 l.length 2∧h'.floor=h.floor∧h'.get id=some ((wc l 16 0).flatMap wq)
 | 0, n, h, hm, hn, hf, hg => by
   obtain rfl:n=16:=by omega
   refine⟨[(4,.aJ T 0),(6,.aD id 0 l.length 2),(25,.agg SS),(26,.int .i64 16),(27,.bool false)],h,sM ?_,rfl,rfl,hg⟩
   simp (disch:=omega)only[go_sem,vr,AP.f338L1]
 | m + 1, n, h, hm, hn, hf, hg => by
   obtain⟨h1,L1,f1,g1⟩:=Ce hl T (.agg SS) id n hn (by omega) (hT n hn (by omega)) l [] h rfl hf hg
   have c0:wx [] n=0:=by simp [wx]
   rw[c0]at L1
   obtain⟨e',h',L,q1,q2,q3⟩:=Fc hl T SS id hT hS m (n+1) h1 (by omega) (by omega) (by omega) (by rw[Gi];exact g1)
   refine⟨e',h',sN ?_ L,q1,by rw[q2,f1],q3⟩
   have hs:=hS n (by omega)
   have ln:=I7 (syms l n)
   rw[za]at ln
   have n1:((n+1:Nat):Int)=(n:Int)+1:=by omega
   have Ii:(n:Int)<16:=by omega
   have ia:lF false 16 1 (.agg SS) (.int .i64 n)=some (yK (ints (syms l n))):=by
    simp [lF,cG,nh,Ii,gE,hs]
   have L1':Lp AP.A [4,6,7,25,26,30,31,32] AP.f338L0 [(4,.aJ T 0),(6,.aD id 0 l.length 2),(7,.int .i64 n),(25,.agg SS),(26,.int .i64 n),(30,yK (ints (syms l n))),(31,.int .i64 (wx l n)),(32,.int .i64 0)] h=_:=L1
   rw[n1]
   clear L L1 q3 g1 hs
   generalize yK (ints (syms l n))=SV at *
   simp (disch:=omega)only[go_sem,vr,AP.f338L1,Ii,ia,ln,rK,L1']
theorem K8 (h:H) (x:AV) (l:List Int) (hl:l.length<1000) (rd:Rd h x (ints l)) (hm:zS l=true) (h0:0≤vm l 15):aQ AP.A 348 [x] h=some (.bJ [vq l,.int .i64 0],h):=by
 have rd':=rd.mono (vj h)
 have k1:=KK h.dG x l (by omega) rd'
 rw[hm]at k1
 have k2:=yW h.dG x l (by omega) (A6 hm) rd'
 have hb:vq l=.aJ (mX 49 (wm l)) 0:=rfl
 have g:(mX 49 (wm l))[48]?=some (.int .i64 (vm l 15)):=by rw[fy (by omega)];rfl
 have c:¬vm l 15<0:=by omega
 rw[hb]at k2 ⊢
 generalize mX 49 (wm l)=T at *
 refine tE (fn:=AP.f348) (h2:=h.dG) (e:=[(2,.aJ T 0),(3,.int .i64 0)]) (vs:=[.aJ T 0,.int .i64 0]) rfl rfl rfl ?_ rfl rfl
 simp (disch:=omega)only[go_sem,vr,AP.f348,k1,k2,g,c]
theorem yZ (h:H) (x:AV) (l:List Int) (h1:1≤l.length) (hl:l.length<1000) (rd:Rd h x (ints l)) (hc:vn l=0∨vn l=302):aQ AP.A 338 [x] h=some (.bJ [yQ l,.int .i64 0],h):=by
 have yx:Rd h.dG x (ints l):=rd.mono (vj h)
 have hm:zS l=true:=by
  unfold vn at hc
  by_cases q:zS l=false
  · rw[if_pos q]at hc;omega
  · simpa using q
 have h0:0≤vm l 15:=by
  unfold vn at hc
  rw[if_neg (by rw[hm];decide)]at hc
  by_cases q:vm l 15<0
  · rw[if_pos q]at hc;omega
  · omega
 have hr:=A6 hm
 have k:=K8 h.dG x l hl yx hm h0
 obtain⟨g,eg⟩:∃g,g=h.dG.alloc (yI l.length [.int .i64 0,.int .i64 0]):=⟨_,rfl⟩
 have hn:h.dG.next=h.next:=rfl
 have gg:g.get h.next=some ((wc l 1 0).flatMap wq):=by rw[eg,vh (by simp),Bw,Gj]
 have gf:g.floor=h.next:=by rw[eg];simp
 have ln:=rd.len
 rw[pf]at ln
 simp only[I]at ln
 obtain⟨T,eT⟩:∃T,T=mX 49 (wm l):=⟨_,rfl⟩
 have hT:∀n,1≤n→n≤15→T[n]?=some (.int .i64 (u7 l n)):=fun n _ hn=>by
  rw[eT,fy (by omega),wm,if_pos (by omega)];rfl
 have hS:∀n,n≤15→((T.drop 32).take 16)[n]?=some (yK (ints (syms l n))):=fun n hn=>by
  rw[List.getElem?_take_of_lt (by omega),uL,eT,fy (by omega),wm,if_neg (by omega),if_neg (by omega),if_pos (by omega),show 32+n-32=n by omega]
 have hb:vq l=.aJ T 0:=by rw[eT];rfl
 have lT:T.length=49:=by rw[eT];simp [mX]
 rw[hb]at k
 obtain⟨e',h',L,q1,q2,q3⟩:=Fc hl T ((T.drop 32).take 16) h.next hT hS 15 1 g (by omega) (by omega) (by omega) gg
 have L0:∃e',Lp AP.A [4,6,25,26] AP.f338L1 [(4,.aJ T 0),(6,.aD h.next 0 l.length 2),(25,.agg ((T.drop 32).take 16)),(26,.int .i64 0)] g=some (.exit 0,e',h')∧look e' 6=.aD h.next 0 l.length 2:=by
  refine⟨e',sN ?_ L,q1⟩
  have hs:=hS 0 (by omega)
  have ia:lF false 16 1 (.agg ((T.drop 32).take 16)) (.int .i64 0)=some .aO:=by
   have hs':((T.drop 32).take 16)[0]?=some .aO:=by rw[hs];rfl
   show gE false 1 ((T.drop 32).take 16) 0=_
   unfold gE
   rw[if_neg (by decide)]
   exact hs'
  have Li:Lp AP.A [4,6,7,25,26,30,31,32] AP.f338L0 [(4,.aJ T 0),(6,.aD h.next 0 l.length 2),(7,.int .i64 0),(25,.agg ((T.drop 32).take 16)),(26,.int .i64 0),(30,.aO),(31,.int .i64 0),(32,.int .i64 0)] g=some (.exit 2,[(4,.aJ T 0),(6,.aD h.next 0 l.length 2),(7,.int .i64 0),(25,.agg ((T.drop 32).take 16)),(26,.int .i64 0),(30,.aO),(31,.int .i64 0),(32,.int .i64 0),(33,.bool false)],g):=by
   refine sM ?_
   simp (disch:=omega)only[go_sem,vr,AP.f338L0]
  clear L q3 hs hT hS
  generalize (T.drop 32).take 16=SS at *
  have Ii:(0:Int)<16:=by omega
  simp (disch:=omega)only[go_sem,vr,AP.f338L1,Ii,ia,DY,rK,Li]
 obtain⟨e0,L0,q0⟩:=L0
 rw[HO hr]at q3
 have ce:(uX l).length=l.length:=by simp [uX]
 have ow:vQ 2 h' (.aD h.next 0 l.length 2) l.length ((uX l).flatMap wq):=⟨by rw[AU yl,ce],.inr ⟨h.next,rfl,q3,by omega,by omega⟩⟩
 refine tE (fn:=AP.f338) (h2:=h') (e:=[(2,.aD h.next 0 l.length 2),(3,.int .i64 0)]) (vs:=[.aD h.next 0 l.length 2,.int .i64 0]) rfl rfl rfl ?_ rfl ?_
 · have ld:bN true 16 (.aJ T 32) g=some (.agg ((T.drop 32).take 16)):=by
    show gE true 16 T 32=_
    simp [gE,lT]
   clear ow q3 rd yx hr L hT hS gg
   generalize (T.drop 32).take 16=SS at *
   have ld':gE true 16 T 32=some (.agg SS):=ld
   simp (disch:=omega)only[go_sem,vr,AP.f338,k,ln,←eg,hn,ld',rK,L0,q0]
 · have o':=ow
   rw[zV]at o'
   have s1:=o'.zu (fl:=h.next) (m:=13) (t:=true) (by omega)
   show(fm (snap h'.get h.next 15 true) [.aD h.next 0 l.length 2,.int .i64 0]).bind _=_
   simp only[fm,s1,uv]
   rw[←zV];rfl
theorem Ia (s : ByteArray) (hs : s.size < 32000) : ∀ (f i : Nat) (h : H) (ov : AV) (ts : List Tok), s.size - i ≤ f → i ≤ s.size → ts.length ≤ i → vQ 3 h ov ts.length (vI ts) → h.floor ≤ h.next →
 ∃e' h' ov',Lp AP.A [0,4,5] AP.f332L0 [(0,.str s),(4,ov),(5,.int .i64 i)] h=some (.exit 0,e',h')∧look e' 4=ov'∧vQ 3 h' ov' (ts++zc s f i).length (vI (ts++zc s f i))∧h'.floor=h.floor∧h.next≤h'.next:=by
 have stop:∀(i:Nat) (h:H) (ov:AV),s.size≤i→∃e',Lp AP.A [0,4,5] AP.f332L0 [(0,.str s),(4,ov),(5,.int .i64 i)] h=some (.exit 0,e',h)∧look e' 4=ov:=by
  intro i h ov hi
  refine⟨[(0,.str s),(4,ov),(5,.int .i64 i),(13,.bool false)],sM ?_,rfl⟩
  have c:¬(i:Int)<s.size:=by omega
  simp (disch:=omega)only[go_sem,vr,AP.f332L0,vV,c]
 intro f
 induction f with
 | zero =>
   intro i h ov ts hf hi hts o hfn
   obtain⟨e',r1,r2⟩:=stop i h ov (by omega)
   exact⟨e',h,ov,r1,r2,by simpa [zc]using o,rfl,uy _⟩
 | succ f ih =>
   intro i h ov ts hf hi hts o hfn
   by_cases c0:i<s.size
   · have kb:=fun g=>Kn g s i hs c0
     have hb:=AN s i
     have lt:=F5 s i
     have le:=F4 s i c0
     have bsp:=zH s i (by omega) i (0,0) (uy _) (.inl rfl)
     have hx:=zk (s:=s) (i:=(i:Int)) ⟨by omega,by omega⟩
     rw[show((i:Int)).toNat=i by omega]at hx
     have c0':(i:Int)<s.size:=by omega
     have fin:∀(g:H) (t:Tok) (i':Nat),wg s i=(t,i')→g.floor=h.floor→g.next=h.next+1→(∀j,j<h.next→g.get j=h.get j)→(∀(v':AV) (h':H),j9 (g.alloc (F6 t)) 3 24 ov (.aD g.next 0 1 3)=some (v',h')→h'.get h.next=g.get h.next→aK (aQ AP.A) bo AP.f332L0 (ax [(0,.str s),(4,ov),(5,.int .i64 i)] [0,4,5]) h=some (.normal,[(0,.str s),(4,v'),(5,.int .i64 i')],h'))→
      ∃e' h' ov',Lp AP.A [0,4,5] AP.f332L0 [(0,.str s),(4,ov),(5,.int .i64 i)] h=some (.exit 0,e',h')∧look e' 4=ov'∧vQ 3 h' ov' (ts++zc s (f+1) i).length (vI (ts++zc s (f+1) i))∧h'.floor=h.floor∧h.next≤h'.next:=by
      intro g t i' et gf gn gk hstep
      have og:vQ 3 g ov ts.length (vI ts):=o.mono gf fun j hj=>gk j (o.lt hj).2
      obtain⟨v',h',p1,p2,p3,p4,p5,p6⟩:=og.push (by omega) (z:=24) (m:=1) (by omega) (by omega) (F6 t) rfl rfl (by simp [roomy];omega)
      have hon:ov.id?≠some h.next:=fun q=>by have:=(o.lt q).2;omega
      have step:=hstep v' h' p1 (p5 h.next hon (by omega))
      rw[et]at lt le
      simp only at lt le
      have o2:vQ 3 h' v' (ts++[t]).length (vI (ts++[t])):=by rw[GM,uU];exact p2
      obtain⟨e',h2,ov',r1,r2,r3,r4,r5⟩:=ih i' h' v' (ts++[t]) (by omega) le (by simp;omega) o2 (by omega)
      refine⟨e',h2,ov',sN step r1,r2, ?_,by omega,by omega⟩
      rw[zc,if_pos c0,et]
      simpa using r3
     by_cases c1:(vF s i i (0,0)).1<3
     · have et:wg s i=(⟨xn s i,0,0⟩,i+1):=if_pos c1
       have e1:DA (vF s i i (0,0))=(0,0):=if_pos c1
       rw[e1]at kb
       obtain⟨g,eg⟩:∃g,g=((h.alloc [.int .i64 0,.int .i64 0,.int .i64 0]).set h.next [.int .i64 0,.int .i64 0,.int .i64 0]).set h.next [.int .i64 (xn s i:Nat),.int .i64 0,.int .i64 0]:=⟨_,rfl⟩
       have gg0:g.get h.next=some [.int .i64 (xn s i:Nat),.int .i64 0,.int .i64 0]:=by rw[eg,vo rfl,vo rfl,vh rfl];rfl
       refine fin g _ _ et (by rw[eg];simp) (by rw[eg];simp) (fun j hj=>by rw[eg,uY (by omega),uY (by omega),u9 (by omega)]) fun v' h' ap gh=> ?_
       rw[gg0]at gh
       simp only[F6,Kw,ints,QY,Rw,I]at ap
       have n1:((i+1:Nat):Int)=(i:Int)+1:=by omega
       have m1:Cw 1 0=1:=rfl
       have kb':∀g:H,aQ AP.A 344 [.str s,.int .i64 i] g=some (.agg [.int .i64 0,.int .i64 0,.int .i64 0],g):=kb
       have w8:IntKind.wrap .i64 ((xn s i:Nat):Int)=((xn s i:Nat):Int):=wi (by omega)
       have cz:((0:Int)==0)=true:=by decide
       rw[n1]
       clear kb ih o bsp fin lt le
       generalize ((xn s i:Nat):Int)=Y at *
       simp (disch:=first|omega|(simp only[wz,QQ,QS,uF,Nat.reduceAdd];first|done|omega|fail)|(simp (disch:=first|omega|(simp only[wz,QQ,QS,uF,Nat.reduceAdd];first|done|omega|fail)|fail)only[wz,BG,QU,QQ,QS,uF,Nat.reduceAdd];done)|fail)only[go_sem,vr,BF,]at ap
       simp (disch:=first|omega|(simp only[wz,QQ,QS,uF,Nat.reduceAdd,gg0];first|done|omega|fail)|(simp (disch:=first|omega|(simp only[wz,QQ,QS,uF,Nat.reduceAdd,gg0];first|done|omega|fail)|fail)only[wz,BG,QU,QQ,QS,uF,Nat.reduceAdd,gg0];done)|fail)only[go_sem,vr,BF,AP.f332L0,vV,c0',kb',hx,Gy,DZ,m1,cz,w8,←eg,gg0,ap,gh]
     · have et:wg s i=(⟨0,(vF s i i (0,0)).1,(vF s i i (0,0)).2⟩,i+(vF s i i (0,0)).1):=if_neg c1
       have e1:DA (vF s i i (0,0))=vF s i i (0,0):=if_neg c1
       rw[e1]at kb
       have b258:(vF s i i (0,0)).1≤258:=by
        rcases bsp with q|q
        · omega
        · exact q.1
       obtain⟨g,eg⟩:∃g,g=(h.alloc [.int .i64 0,.int .i64 0,.int .i64 0]).set h.next [.int .i64 0,.int .i64 (vF s i i (0,0)).1,.int .i64 (vF s i i (0,0)).2]:=⟨_,rfl⟩
       have gg0:g.get h.next=some [.int .i64 0,.int .i64 (vF s i i (0,0)).1,.int .i64 (vF s i i (0,0)).2]:=by rw[eg,vo rfl,vh rfl];rfl
       refine fin g _ _ et (by rw[eg];simp) (by rw[eg];simp) (fun j hj=>by rw[eg,uY (by omega),u9 (by omega)]) fun v' h' ap gh=> ?_
       rw[gg0]at gh
       simp only[F6,Kw,ints,QY,Rw,I]at ap
       have n1:((i+(vF s i i (0,0)).1:Nat):Int)=(i:Int)+((vF s i i (0,0)).1:Nat):=by omega
       have m1:Cw 1 ((vF s i i (0,0)).1:Int)=((vF s i i (0,0)).1:Int):=by unfold Cw;split<;>omega
       have cb:(((vF s i i (0,0)).1:Int)==0)=false:=by simp;omega
       rw[n1]
       clear ih o bsp et e1 hx fin lt le
       generalize (vF s i i (0,0)).1=B1 at *
       generalize (vF s i i (0,0)).2=B2 at *
       simp (disch:=first|omega|(simp only[wz,QQ,QS,uF,Nat.reduceAdd];first|done|omega|fail)|(simp (disch:=first|omega|(simp only[wz,QQ,QS,uF,Nat.reduceAdd];first|done|omega|fail)|fail)only[wz,BG,QU,QQ,QS,uF,Nat.reduceAdd];done)|fail)only[go_sem,vr,BF,]at ap
       simp (disch:=first|omega|(simp only[wz,QQ,QS,uF,Nat.reduceAdd,gg0];first|done|omega|fail)|(simp (disch:=first|omega|(simp only[wz,QQ,QS,uF,Nat.reduceAdd,gg0];first|done|omega|fail)|fail)only[wz,BG,QU,QQ,QS,uF,Nat.reduceAdd,gg0];done)|fail)only[go_sem,vr,BF,AP.f332L0,vV,c0',kb,cb,Gy,DZ,m1,←eg,gg0,ap,gh]
   · obtain⟨e',r1,r2⟩:=stop i h ov (by omega)
     exact⟨e',h,ov,r1,r2,by simpa [zc,c0]using o,rfl,uy _⟩
theorem Ic (h:H) (s:ByteArray):aQ AP.A 332 [.str s] h=some (if 300<s.size then .bJ [.aO,.int .i64 500]else .bJ [CX (tokens s),.int .i64 0],h):=by
 by_cases c:300<s.size
 · rw[if_pos c]
   refine tE (fn:=AP.f332) (h2:=h.dG) (e:=[(2,.aO),(3,.int .i64 500)]) (vs:=[.aO,.int .i64 500]) rfl rfl rfl ?_ rfl rfl
   have c':(300:Int)<s.size:=by omega
   simp (disch:=omega)only[go_sem,vr,AP.f332,vV,c']
 · rw[if_neg c]
   obtain⟨e',h',ov',r1,r2,r3,r4,r5⟩:=Ia s (by omega) s.size 0 h.dG .aO [] (by omega) (by omega) (by simp) vQ.nil (by simp)
   have r1':Lp AP.A [0,4,5] AP.f332L0 [(0,.str s),(4,.aO),(5,.int .i64 0)] h.dG=some (.exit 0,e',h'):=r1
   clear r1
   rw[List.nil_append]at r3
   refine tE (fn:=AP.f332) (h2:=h') (e:=[(2,ov'),(3,.int .i64 0)]) (vs:=[ov',.int .i64 0]) rfl rfl rfl ?_ rfl ?_
   · have c':¬(300:Int)<s.size:=by omega
     simp (disch:=omega)only[go_sem,vr,AP.f332,vV,c',rK,r1',r2]
   · have o':=r3
     rw[Aa]at o'
     have s1:=o'.zu (fl:=h.next) (m:=13) (t:=true) (by rw[r4];simp)
     show(fm (snap h'.get h.next 15 true) [ov',.int .i64 0]).bind _=_
     simp only[fm,s1,uv]
     rw[←Aa];rfl
theorem Fx {P:List Nat} {i b:Nat} (h:i%8=0) (hl:P.length=i/8):vK P i b=P++[b]:=by
 unfold vK
 rw[if_pos h]
 dsimp only
 rw[←hl,h]
 rw[QP,Q1 (uy _),Nat.sub_self]
 rw[List.set_append_right _ _ (uy _),Nat.sub_self]
 simp
theorem Em {P:List Nat} {a i b:Nat} (h:¬i%8=0) (hl:P.length=i/8):vK (P++[a]) i b=P++[a|||b* 2^(i%8)]:=by
 unfold vK
 rw[if_neg h]
 dsimp only
 rw[←hl]
 rw[QP,Q1 (uy _),Nat.sub_self]
 rw[List.set_append_right _ _ (uy _),Nat.sub_self]
 simp
theorem Qh:∀b,b<256→b/2^0%2|||b/2^1%2* 2^1|||b/2^2%2* 2^2|||b/2^3%2* 2^3|||b/2^4%2* 2^4|||b/2^5%2* 2^5|||b/2^6%2* 2^6|||b/2^7%2* 2^7=b:=by decide+kernel
theorem Gz {bs:List Nat} (h:bs.length%8=0) {b:Nat} (hb:b<256):vi (bs++vb b 8)=vi bs++[b]:=by
 have pl:=wU bs
 have e:vi (bs++vb b 8)=wE (vb b 8) bs.length (vi bs):=by
  unfold vi;rw[zU,uF]
 rw[e]
 obtain⟨n,hn⟩:∃n,n=bs.length:=⟨_,rfl⟩
 rw[←hn]at h pl ⊢
 generalize vi bs=P at *
 have lP:P.length=n/8:=by omega
 show wE [b/2^0%2,b/2^1%2,b/2^2%2,b/2^3%2,b/2^4%2,b/2^5%2,b/2^6%2,b/2^7%2] n P=_
 have m:∀k,1≤k→k<8→(n+k)%8=k∧P.length=(n+k)/8:=fun k h1 h2=>by omega
 simp only[wE]
 rw[Fx h lP]
 have st:∀k a c,1≤k→k<8→vK (P++[a]) (n+k) c=P++[a|||c* 2^k]:=fun k a c h1 h2=>by
  obtain⟨m1,m2⟩:=m k h1 h2
  rw[Em (by omega) m2,m1]
 rw[st 1 _ _ (by omega) (by omega)]
 rw[show n+1+1=n+2 by omega,st 2 _ _ (by omega) (by omega)]
 rw[show n+2+1=n+3 by omega,st 3 _ _ (by omega) (by omega)]
 rw[show n+3+1=n+4 by omega,st 4 _ _ (by omega) (by omega)]
 rw[show n+4+1=n+5 by omega,st 5 _ _ (by omega) (by omega)]
 rw[show n+5+1=n+6 by omega,st 6 _ _ (by omega) (by omega)]
 rw[show n+6+1=n+7 by omega,st 7 _ _ (by omega) (by omega)]
 rw[Qh b hb]
def wA (s:ByteArray) (i:Nat):List Nat:=(List.range i).flatMap fun k=>vb (xn s k) 8
theorem yA (s:ByteArray) (i:Nat):wA s (i+1)=wA s i++vb (xn s i) 8:=by simp [wA,List.range_succ]
theorem yN (s:ByteArray):∀i,(wA s i).length=8* i
 |0=>rfl
 |i+1=>by rw[yA,uU,yN s i];simp [vb,vp];omega
theorem Bu (bs:List Nat) (h:bs.length%8=0) (s:ByteArray):∀i,vi (bs++wA s i)=vi bs++preB s i
 |0=>by simp [wA,preB]
 | i + 1 => by
   rw[yA,←Q2,Gz (by rw[uU,yN];omega) (AN s i),Bu bs h s i,zo,Q2]
theorem ER (s:ByteArray):bytesOf (preB s s.size)=s:=by
 apply ByteArray.ext
 apply Array.ext
 · have:=vR (preB s s.size)
   rw[xi]at this
   exact this
 · intro i h1 h2
   simp only[bytesOf,preB,List.map_map,List.getElem_toArray,List.getElem_map,List.getElem_range,Function.comp_apply]
   have hi:i<s.size:=h2
   unfold xn
   rw[show s[i]?=some s[i]by simp [hi]]
   simp
   rfl
theorem BV (a b:List Nat):bytesOf (a++b)=bytesOf a++bytesOf b:=by
 apply ByteArray.ext
 simp [bytesOf,ByteArray.data_append]
theorem BA (s:ByteArray):bytesOf (vi (vD s.size++wA s s.size))=wB s:=by
 have l:(vD s.size).length=40:=by simp [vD,vb,vp]
 rw[Bu _ (by omega),BV,ER];rfl
theorem Ht (s:ByteArray) (hs:s.size≤300) (h0:H) (w:Nat):∀(m i:Nat) (bs:List Nat) (h:H) (ov:AV),i+m=s.size→WX h0 h w bs ov→bs.length+8* m≤60000→
 ∃h' ov',Lp AP.A [0,4,5,25,26] AP.f325L0 [(0,.str s),(4,.aC w 0),(5,.fn 335 [.aC w 0] []),(25,.int .i64 s.size),(26,.int .i64 i)] h=some (.exit 0,[(0,.str s),(4,.aC w 0),(5,.fn 335 [.aC w 0] []),(25,.int .i64 s.size),(26,.int .i64 s.size),(27,.bool false)],h')∧WX h0 h' w (bs++((List.range' i m).flatMap fun k=>vb (xn s k) 8)) ov'
 | 0, i, bs, h, ov, hi, x, hb => by
   obtain rfl:i=s.size:=by omega
   refine⟨h,ov,sM ?_,by simpa using x⟩
   simp (disch:=omega)only[go_sem,vr,AP.f325L0]
 | m + 1, i, bs, h, ov, hi, x, hb => by
   have bl:=AN s i
   obtain⟨h1,o1,k1,w1,f1⟩:=xq x.wr (xn s i) 8 (by omega) (by omega) (by omega)
   obtain⟨h',ov',L,x2⟩:=Ht s hs h0 w m (i+1) (bs++vb (xn s i) 8) h1 o1 (by omega) (x.step w1 f1) (by simp [vb,vp];omega)
   refine⟨h',ov',sN ?_ L,by rw[List.range'_succ,QW,←Q2];exact x2⟩
   have hx:=zk (s:=s) (i:=(i:Int)) ⟨by omega,by omega⟩
   rw[show((i:Int)).toNat=i by omega]at hx
   have c0:(i:Int)<s.size:=by omega
   have w8:IntKind.wrap .i64 ((xn s i:Nat):Int)=((xn s i:Nat):Int):=wi (by omega)
   have k1':aQ AP.A 335 [.aC w 0,.int .i64 (xn s i:Nat),.int .i64 8] h=some (.int .i64 0,h1):=k1
   have n1:((i+1:Nat):Int)=(i:Int)+1:=by omega
   rw[n1]
   clear x x2 L w1 f1 k1
   generalize ((xn s i:Nat):Int)=Y at *
   simp (disch:=omega)only[go_sem,vr,AP.f325L0,c0,hx,w8,k1']
theorem Ky:∀n:Nat,n≤300→bits .xor .i64 (n:Int) 65535=65535-(n:Int):=by
 intro n hn
 have:∀n:Nat,n<301→decide (bits .xor .i64 ((n:Nat):Int) 65535=65535-((n:Nat):Int))=true:=by decide+kernel
 exact of_decide_eq_true (this n (by omega))
theorem DK (h:H) (s:ByteArray):aQ AP.A 325 [.str s] h=some (if 300<s.size then .bJ [.str ⟨#[]⟩,.int .i64 800]else .bJ [.str (wB s),.int .i64 0],h):=by
 by_cases c:300<s.size
 · rw[if_pos c]
   have c':(300:Int)<s.size:=by omega
   refine tE (fn:=AP.f325) (h2:=h.dG) (e:=[(2,.str ⟨#[]⟩),(3,.int .i64 800)]) (vs:=[.str ⟨#[]⟩,.int .i64 800]) rfl rfl rfl ?_ rfl rfl
   simp (disch:=omega)only[go_sem,vr,AP.f325,vV,c']
 · rw[if_neg c]
   obtain⟨h1,o1,k1,x1,f1⟩:=GR (h:=h.dG) rfl 0 (by omega)
   have e0:vb 1 1++vb 0 2=vb 1 3:=by decide
   rw[e0]at x1
   obtain⟨h2,k2,w2,r2⟩:=Jh x1.wr 5 (by simp [vb,vp]) (by omega) (by simp [vb,vp])
   have x2:=x1.step w2 r2
   obtain⟨h3,o3,k3,w3,r3⟩:=xq x2.wr s.size 16 (by omega) (by omega) (by simp [vb,vp])
   have x3:=x2.step w3 r3
   obtain⟨h4,o4,k4,w4,r4⟩:=xq x3.wr (65535-s.size) 16 (by omega) (by omega) (by simp [vb,vp])
   have x4:=x3.step w4 r4
   have ee:vb 1 3++List.replicate 5 0++vb s.size 16++vb (65535-s.size) 16=vD s.size:=by unfold vD;simp only[Q2]
   rw[ee]at x4
   obtain⟨h5,o5,L,x5⟩:=Ht s (by omega) h.dG h.dG.next s.size 0 _ h4 o4 (by omega) x4 (by simp [vD,vb,vp];omega)
   have eb:vD s.size++((List.range' 0 s.size).flatMap fun k=>vb (xn s k) 8)=vD s.size++wA s s.size:=by unfold wA;rw[List.range_eq_range']
   rw[eb]at x5
   have k6:=Hl x5.wr
   rw[BA s]at k6
   have hN:h.dG.next=h.next:=rfl
   rw[hN]at k1 k2 k3 k4 L k6
   have c':¬(300:Int)<s.size:=by omega
   have k1':aQ AP.A 333 [.int .i64 0] h.dG=some (.aC h.next 0,h1):=k1
   have k3':aQ AP.A 335 [.aC h.next 0,.int .i64 s.size,.int .i64 16] h2=some (.int .i64 0,h3):=k3
   have xo:=Ky s.size (by omega)
   have e4:((65535-s.size:Nat):Int)=65535-(s.size:Int):=by omega
   rw[e4]at k4
   have k4':aQ AP.A 335 [.aC h.next 0,.int .i64 (65535-(s.size:Int)),.int .i64 16] h3=some (.int .i64 0,h4):=k4
   have L':Lp AP.A [0,4,5,25,26] AP.f325L0 [(0,.str s),(4,.aC h.next 0),(5,.fn 335 [.aC h.next 0] []),(25,.int .i64 s.size),(26,.int .i64 0)] h4=_:=L
   refine tE (fn:=AP.f325) (h2:=h5) (e:=[(2,.str (wB s)),(3,.int .i64 0)]) (vs:=[.str (wB s),.int .i64 0]) rfl rfl rfl ?_ rfl rfl
   clear x1 x2 x3 x4 x5 w2 w3 w4 r2 r3 r4 L k1 k3 k4 ee eb e0
   generalize wB s=TT at *
   generalize 65535-(s.size:Int)=Z at *
   simp (disch:=omega)only[go_sem,vr,AP.f325,vV,c',k1',k2,k3',xo,k4',rK,L',k6]
end Ab
