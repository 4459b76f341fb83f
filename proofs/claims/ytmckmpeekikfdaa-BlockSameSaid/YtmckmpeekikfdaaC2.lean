/- Part C2. -/
import Derived.Test.YtmckmpeekikfdaaC1
set_option linter.unusedVariables false
namespace Ab
open Go
def Kb:Ty:=.int .i64
theorem Gv {B:Nat} {avs:List AV} (h:Sh B Kb avs):∃n,avs=[.int .i64 n]∧(-9223372036854775808≤n∧n<9223372036854775808):=by
 cases h with
 |int h=>exact⟨_,rfl,sV h⟩
theorem CE {B:Nat} {f:Ty} {fs:List Ty} {avs:List AV} (h:iB B (f::fs) avs):∃a r,avs=a++r∧Sh B f a∧iB B fs r:=by
 cases h with
 |cons h hr=>exact⟨_,_,rfl,h,hr⟩
theorem Kl {B:Nat} {avs:List AV} (h:iB B [] avs):avs=[]:=by
 cases h;rfl
theorem Pa {B:Nat} {fs:List Ty} {avs:List AV} (h:Sh B (.st fs) avs):iB B fs avs:=by
 cases h with
 |st h=>exact h
theorem Pv {P:Ty×List AV→Prop} {a:Ty} {r:List (Ty×List AV)} (h:r.map (·.1)=[a]) (hp:∀x∈r,P x):∃x,r=[(a,x)]∧P (a,x):=by
 match r,h with
 |[(b,x)],h=>simp at h;subst h;exact⟨x,rfl,hp _ (by simp)⟩
def Pe:Ty:=.st [Kb,Kb,Kb]
def Hq:Ty:=.sl Pe 3 24
theorem Km {B:Nat} {ess:List (List AV)} (h:∀es,es∈ess→Sh B Pe es):∃l:List Tok,l.length=ess.length∧ess.flatten=vB l:=by
 induction ess with
 |nil=>exact⟨[],rfl,rfl⟩
 | cons y ess ih =>
   obtain⟨l,h1,h2⟩:=ih fun es q=>h es (by simp [q])
   obtain⟨a1,r1,rfl,s1,h3⟩:=CE (Pa (h y (by simp)))
   obtain⟨a2,r2,rfl,s2,h4⟩:=CE h3
   obtain⟨a3,r3,rfl,s3,h5⟩:=CE h4
   obtain rfl:=Kl h5
   obtain⟨a,rfl,_⟩:=Gv s1
   obtain⟨b,rfl,_⟩:=Gv s2
   obtain⟨c,rfl,_⟩:=Gv s3
   exact⟨⟨a,b,c⟩::l,by simp [h1],by rw[List.flatten_cons,h2];rfl⟩
theorem Kn {avs:List AV} (h:Sh reachBytes Hq avs):∃(v:AV) (l:List Tok),avs=[v]∧v.sc=true∧(∀g,xH 3 g v l.length (vB l))∧l.length<9000000000000:=by
 cases h with
 |aO=>exact⟨.aO,[],rfl,rfl,fun g=>⟨rfl,rfl,fun s q=>(by cases q)⟩,by simp⟩
 | aU ess h hz hb =>
   obtain⟨l,h1,h2⟩:=Km h
   refine⟨_,l,rfl,rfl,fun g=> ?_, ?_⟩
   · rw[h2,←h1]
     refine⟨?_,by rw[zh],fun s q=>by cases q⟩
     simp only[aR,if_true,uC]
     rw[if_pos (by rw[zh];exact uv _),QZ,uM (by rw[zh];exact uv _)]
   · rw[h1];unfold reachBytes at hb;omega
end Ab
set_option linter.unusedSimpArgs false
set_option maxRecDepth 100000
namespace Ab
open Go
def Nw (s:ByteArray):List Nat:=s.data.toList.map (·.toNat)
theorem Hp (s:ByteArray):(Nw s).length=s.size:=by unfold Nw;rw[Ri,Array.length_toList];rfl
theorem Nx (s:ByteArray):∀b∈Nw s,b<256:=by
 intro b hb
 obtain⟨x,_,rfl⟩:=QP.1 hb
 exact x.toNat_lt
theorem A8 (s:ByteArray):bytesOf (Nw s)=s:=by
 unfold Nw bytesOf;rw[List.map_map];apply ByteArray.ext;simp [Function.comp_def]
theorem Hx (x:Int) (k:Nat) (hk:k≤62):bits .and .i64 x ((2^k-1:Nat):Int)=x%((2^k:Nat):Int):=by
 have h2:2^k≤2^62:=QX (by omega) hk
 have h3:0<2^k:=Nat.pow_pos (by omega)
 show IntKind.wrap .i64 (((BitVec.ofInt 64 x&&&BitVec.ofInt 64 ((2^k-1:Nat):Int)).toNat:Nat):Int)=_
 rw[BitVec.toNat_and,xu 64 (2^k-1) (by omega),BitVec.toNat_ofInt,Nat.and_two_pow_sub_one_eq_mod,uX (by
  have:=Nat.mod_lt (x%((2^64:Nat):Int)).toNat h3
  omega)]
 have e:(((x%((2^64:Nat):Int)).toNat:Nat):Int)=x%((2^64:Nat):Int):=Int.toNat_of_nonneg (Int.emod_nonneg _ (by decide))
 rw[Int.natCast_emod,e]
 refine Int.emod_emod_of_dvd x ?_
 refine Int.natCast_dvd_natCast.2 (Nat.pow_dvd_pow 2 (by omega))
theorem PW {n:Nat} (h:n<256):IntKind.wrap .u8 (n:Int)=n:=wb (by omega)
theorem Pd {a n:Nat} (hn:0<n):bh .rem (.int .i64 ((a:Nat):Int)) (.int .i64 (n:Int))=some (.int .i64 ((a%n:Nat):Int)):=by
 show(if(n:Int)=0 then none else some (AV.int .i64 ((a:Int).tmod n)))=_
 rw[if_neg (by omega),Int.tmod_eq_emod_of_nonneg (by omega)];rfl
theorem zO:∀(l cs:List AV) (off:Nat),off+l.length≤cs.length→setFrom cs off l=cs.take off++(l++cs.drop (off+l.length))
 |[],cs,off,h=>by simp [setFrom]
 | v :: l, cs, off, h => by
   rw[QG]at h
   rw[setFrom,zO l (cs.set off v) (off+1) (by rw[Q1];omega)]
   rw[List.take_set,List.drop_set_of_lt (by omega),QG,show off+1+l.length=off+(l.length+1)by omega]
   rw[List.take_succ_eq_append_getElem (by omega),List.set_append_right _ _ (by simp;omega)]
   simp [show min off cs.length=off by omega]
def vm (bs:List Nat):List Nat:=wu bs 0 []
theorem zJ:∀(a b:List Nat) (i:Nat) (out:List Nat),wu (a++b) i out=wu b (i+a.length) (wu a i out)
 |[],b,i,out=>rfl
 | x :: a, b, i, out => by
   show wu (a++b) (i+1) (vI out i x)=_
   rw[zJ a b]
   show wu b (i+1+a.length) _=wu b (i+(a.length+1)) _
   rw[show i+1+a.length=i+(a.length+1)by omega];rfl
theorem Dw (bs:List Nat) (b:Nat):vm (bs++[b])=vI (vm bs) bs.length b:=by
 unfold vm;rw[zJ,uC];rfl
theorem wS (bs:List Nat):(vm bs).length=(bs.length+7)/8:=by
 have:∀(l:List Nat) (i:Nat) (out:List Nat),out.length=(i+7)/8→(wu l i out).length=(i+l.length+7)/8:=by
  intro l
  induction l with
  |nil=>intro i out h;exact h
  |cons x l ih=>intro i out h;rw[wu,ih (i+1) _ (by rw[Bg h]),QG];congr 1;omega
 have:=this bs 0 [] rfl
 rw[vm,this,uC]
structure Wr (h:H) (w:Nat) (bs:List Nat) (ov:AV):Prop where
 get:h.get w=some [ov,.int .i64 (bs.length:Nat)]
 own:vG 1 h ov (vm bs).length (xI (vm bs))
 fl:h.floor≤w
 Ih:h.floor≤h.next
 ne:ov.id?≠some w
 GJ:JM (vm bs)
structure FY (h:H) (w:Nat) (ov:AV) (h':H) (ov':AV):Prop where
 floor:h'.floor=h.floor
 next:h.next≤h'.next
 vE:∀i,i<h.next→i≠w→ov.id?≠some i→h'.get i=h.get i
 ids:∀j,ov'.id?=some j→ov.id?=some j∨h.next≤j
theorem FY.refl (h:H) (w:Nat) (ov:AV):FY h w ov h ov:=⟨rfl,uv _,fun _ _ _ _=>rfl,fun _ h=>.inl h⟩
theorem FY.trans {h1 h2 h3:H} {w:Nat} {o1 o2 o3:AV} (a:FY h1 w o1 h2 o2) (b:FY h2 w o2 h3 o3):FY h1 w o1 h3 o3:=
 ⟨by rw [b.floor, a.floor], uP a.next b.next, fun i h hw ho => by
   rw[b.vE i (by have:=a.next;omega) hw (fun q=>by rcases a.ids i q with q|q;exact ho q;omega),a.vE i h hw ho],
  fun j h=>by
   rcases b.ids j h with q|q
   · exact a.ids j q
   · exact .inr (uP a.next q)⟩
theorem Ko {b k:Nat} (hb:b≤1) (hk:k<8):oM .shl .i64 (b:Int) ((k:Nat):Int)=some (.int .i64 ((b* 2^k:Nat):Int)):=by
 unfold oM
 rw[if_neg (by omega)]
 simp only[IntKind.bits,Int.toNat_natCast,show min k 64=k by omega]
 have h1:2^k≤2^7:=QX (by omega) (by omega)
 have h2:b* 2^k≤1* 2^7:=Nat.mul_le_mul hb h1
 have:(b:Int)* 2^k=((b* 2^k:Nat):Int):=by rw[Int.natCast_mul,Int.natCast_pow];rfl
 rw[this,wi (by omega)]
theorem NL {l:List Nat} {i x:Nat} (h:l[i]?=some x):(xI l)[i]?=some (.int .u8 (x:Int)):=by simp [xI,h]
theorem Pl (l:List Nat) (i x:Nat):(xI l).set i (.int .u8 (x:Int))=xI (l.set i x):=by simp [xI,List.map_set]
theorem K2 (l:List Nat):(xI l).length=l.length:=by simp [xI]
theorem EF (P:List Nat) (x:Nat):xI (P++[x])=xI P++[.int .u8 (x:Int)]:=by simp [xI]
def AR (v:Nat):Nat→Nat→List Nat
 |_,0=>[]
 |i,m+1=>v/2^i%2::AR v (i+1) m
def vj (v n:Nat):List Nat:=AR v 0 n
def xw (v:Nat):Nat→List Nat
 |0=>[]
 |m+1=>v/2^m%2::xw v m
theorem vt (v:Nat):∀m i,(AR v i m).length=m
 |0,_=>rfl
 |m+1,i=>by simp [AR,vt v m]
theorem vP (v:Nat):∀m,(xw v m).length=m
 |0=>rfl
 |m+1=>by simp [xw,vP v m]
theorem Ev {n:Nat} (h:n<1000000000):bits .and .i64 (n:Int) 1=((n%2:Nat):Int):=by
 have:=Hx (n:Int) 1 (by omega)
 exact this.trans (by omega)
def u7 (o:Option (Nat×Nat)):Nat:=(o.getD (0,0)).1
def vU (o:Option (Nat×Nat)):Nat:=(o.getD (0,0)).2
def yg (f:Nat→Option (Nat×Nat)) (k:Nat):Nat→Nat
 |0=>0
 |s+1=>if u7 (f (s+1))≤k then s+1 else yg f k s
def wH (k:Nat):Nat:=yg lenOf k 285
def yL (k:Nat):Nat:=vU (lenOf (wH k))
def zF (k:Nat):Nat:=k-u7 (lenOf (wH k))
def w9 (k:Nat):Nat:=yg vq k 29
def zm (k:Nat):Nat:=vU (vq (w9 k))
def Ad (k:Nat):Nat:=k-u7 (vq (w9 k))
theorem zE {s:Nat} (h1:257≤s) (h2:s≤285):∃a b,lenOf s=some (a,b):=by
 unfold lenOf;rw[if_neg (by omega)];split;exact⟨_,_,rfl⟩;split<;>exact⟨_,_,rfl⟩
theorem yI {s:Nat} (h2:s≤29):∃a b,vq s=some (a,b):=by
 unfold vq;rw[if_neg (by omega)];split<;>exact⟨_,_,rfl⟩
theorem G4:∀s,257≤s→s<285→u7 (lenOf (s+1))≤u7 (lenOf s)+2^vU (lenOf s):=by
 intro s h1 h2
 have:∀s<285,257≤s→u7 (lenOf (s+1))≤u7 (lenOf s)+2^vU (lenOf s):=by decide+kernel
 exact this s h2 h1
theorem ET:∀s,s<29→u7 (vq (s+1))≤u7 (vq s)+2^vU (vq s):=by decide+kernel
theorem xp {k : Nat} (h1 : 3 ≤ k) (h2 : k ≤ 258) : 257 ≤ wH k ∧ wH k ≤ 285 ∧ u7 (lenOf (wH k)) ≤ k ∧ k < u7 (lenOf (wH k)) + 2 ^ vU (lenOf (wH k)) := by
 have key:∀n s,s=257+n→s≤285→(s=285∨k<u7 (lenOf (s+1)))→257≤yg lenOf k s∧yg lenOf k s≤285∧u7 (lenOf (yg lenOf k s))≤k∧k<u7 (lenOf (yg lenOf k s))+2^vU (lenOf (yg lenOf k s)):=by
  intro n
  induction n with
  | zero =>
    intro s hs h hk
    obtain rfl:s=257:=hs
    have e:yg lenOf k 257=257:=by rw[yg,if_pos (show u7 (lenOf (256+1))≤k from h1)]
    have g:=G4 257 (by omega) (by omega)
    rw[e]
    refine⟨by omega,by omega,h1, ?_⟩
    rcases hk with q|q
    · omega
    · omega
  | succ n ih =>
    intro s hs h hk
    obtain⟨s,rfl⟩:∃t,s=t+1:=⟨s-1,by omega⟩
    by_cases c:u7 (lenOf (s+1))≤k
    · rw [yg, if_pos c]
      refine⟨by omega,by omega,c, ?_⟩
      rcases hk with q|q
      · obtain rfl:s=284:=by omega
        have:u7 (lenOf (284+1))=258:=rfl
        have:0<2^vU (lenOf (284+1)):=Nat.pow_pos (by omega)
        omega
      · by_cases c2:s+1=285
        · obtain rfl:s=284:=by omega
          have:u7 (lenOf (284+1))=258:=rfl
          have:0<2^vU (lenOf (284+1)):=Nat.pow_pos (by omega)
          omega
        · have:=G4 (s+1) (by omega) (by omega);omega
    · rw[yg,if_neg c]
      exact ih s (by omega) (by omega) (.inr (by omega))
 exact key 28 285 (by omega) (by omega) (.inl rfl)
theorem xk {k : Nat} (h1 : 1 ≤ k) (h2 : k ≤ 32768) : w9 k ≤ 29 ∧ u7 (vq (w9 k)) ≤ k ∧ k < u7 (vq (w9 k)) + 2 ^ vU (vq (w9 k)) := by
 have l0:u7 (vq 0)=1:=rfl
 have key:∀s,s≤29→(s=29∨k<u7 (vq (s+1)))→yg vq k s≤29∧u7 (vq (yg vq k s))≤k∧k<u7 (vq (yg vq k s))+2^vU (vq (yg vq k s)):=by
  intro s
  induction s with
  | zero =>
    intro h hk
    rw[yg]
    have g:=ET 0 (by omega)
    refine⟨by omega,by omega, ?_⟩
    rcases hk with q|q<;>omega
  | succ s ih =>
    intro h hk
    by_cases c:u7 (vq (s+1))≤k
    · rw[yg,if_pos c]
      refine⟨by omega,c, ?_⟩
      by_cases c2:s+1=29
      · obtain rfl:s=28:=by omega
        have a1:u7 (vq (28+1))=24577:=rfl
        have a2:2^vU (vq (28+1))=8192:=rfl
        omega
      · have:=ET (s+1) (by omega)
        rcases hk with q|q<;>omega
    · rw[yg,if_neg c]
      exact ih (by omega) (.inr (by omega))
 exact key 29 (by omega) (.inl rfl)
def HJ (d:Nat):Nat→List Nat→List Nat
 |0,o=>o
 |n+1,o=>HJ d n (o++[o.getD (o.length-d) 0])
theorem Bw (d:Nat):∀n o,(HJ d n o).length=o.length+n
 |0,o=>rfl
 |n+1,o=>by rw[HJ,Bw d n];simp;omega
def vx (o:List Nat) (t:Tok):List Nat:=if t.len=0 then o++[t.lit.toNat]else HJ t.vD.toNat t.len.toNat o
def wg:List Tok→List Nat→List Nat
 |[],o=>o
 |t::r,o=>wg r (vx o t)
def xh (ts:List Tok):Option ByteArray:=if vk 0 ts=true then some (bytesOf (wg ts []))else none
def Mb:Option ByteArray→AV
 |some t=>.bJ [.str t,.int .i64 0]
 |none=>.bJ [.str ⟨#[]⟩,.int .i64 500]
def ym (ts:List Tok):Bool:=match xh ts with
 |some t=>decide (t.size≤300)
 |none=>false
theorem Bz {p q:Prop} [Decidable p] [Decidable q] {α:Type} {a b:α} (h:p↔q):(if p then a else b)=if q then a else b:=by
 by_cases c:p
 · rw[if_pos c,if_pos (h.1 c)]
 · rw[if_neg c,if_neg (fun x=>c (h.2 x))]
def v9 (p:Int×Int):List AV:=[.int .i64 p.1,.int .i64 p.2]
theorem ya (p:Int×Int):(v9 p).length=2:=rfl
theorem IL {α:Type} {C:α→List AV} {n:Nat} (hC:∀x,(C x).length=n):∀(l:List α) (i:Nat) (x:α),i<l.length→setFrom (l.flatMap C) (i* n) (C x)=(l.set i x).flatMap C
 |[],i,x,h=>by simp at h
 | y :: l, 0, x, h => by
   have:=xM (C y) (C x) [] (l.flatMap C) (by rw[hC,hC])
   simpa using this
 | y :: l, i + 1, x, h => by
   have ih:=IL hC l i x (by simpa using h)
   rw[QM,List.set_cons_succ,QM,←ih]
   have e:=AF hC l
   have:i<l.length:=by simpa using h
   have hi:i* n+n≤l.length* n:=by
    have:=uy n (show i+1≤l.length from this)
    rwa [Nat.succ_mul]at this
   have hs:(i+1)* n=n+i* n:=by rw[Nat.succ_mul];omega
   rw[zO _ _ _ (by rw[uR,hC,hC,e,hs];omega),zO _ _ _ (by rw[hC,e];omega),hs,hC]
   rw[List.take_append,List.drop_append,hC]
   rw[uM (by rw[hC];omega),List.drop_of_length_le (by rw[hC];omega)]
   rw[show n+i* n-n=i* n by omega,show n+i* n+n-n=i* n+n by omega]
   simp
def xU (l:List Int) (i:Nat):Int×Int:=if 1≤l.getD i 0 then(l.getD i 0,u4 l (l.getD i 0).toNat+wh (l.take i) (l.getD i 0).toNat)else(0,0)
def uU (l:List Int):List (Int×Int):=(List.range l.length).map (xU l)
def vY (l:List Int) (b i:Nat):List (Int×Int):=(List.range l.length).map fun j=>if 1≤l.getD j 0∧(l.getD j 0<b∨(l.getD j 0=b∧j<i))then xU l j else(0,0)
theorem Az (l:List Int) (b i:Nat):(vY l b i).length=l.length:=by simp [vY]
theorem HH {l:List Int} {b i:Nat} (hi:i<l.length) (hb:1≤b) (hl:l.getD i 0=(b:Int)):(vY l b i).set i ((b:Int),u4 l b+wh (l.take i) b)=vY l b (i+1):=by
 apply List.ext_getElem?
 intro j
 rw[QU]
 by_cases e:i=j
 · subst e
   rw[if_pos rfl,if_pos (by rw[Az];exact hi)]
   simp only[vY,uG,Q8 hi,QK]
   rw[if_pos ⟨by omega,.inr ⟨hl,by omega⟩⟩,xU,if_pos (by omega),hl];rfl
 · rw[if_neg e]
   simp only[vY,uG]
   by_cases hj:j<l.length
   · rw[Q8 hj]
     simp only[QK]
     exact Rh some (Bz (by omega))
   · rw[QT (by simp;omega)];rfl
theorem F7 {l:List Int} {b i:Nat} (hl:¬l.getD i 0=(b:Int)):vY l b (i+1)=vY l b i:=by
 unfold vY
 refine Q9 fun j hj=> ?_
 by_cases e:j=i
 · subst e
   exact Bz (by omega)
 · exact Bz (by omega)
theorem F8 (l:List Int) (b:Nat):vY l (b+1) 0=vY l b l.length:=by
 unfold vY
 refine Q9 fun j hj=> ?_
 have hj':j<l.length:=List.mem_range.1 hj
 exact Bz (by omega)
theorem HG {l:List Int} (hr:∀y∈l,0≤y∧y<16):vY l 16 0=uU l:=by
 unfold vY uU
 refine Q9 fun j hj=> ?_
 have hj':j<l.length:=List.mem_range.1 hj
 have hm:=hr (l.getD j 0) (by rw[QF,QH hj'];simp)
 by_cases c:1≤l.getD j 0
 · rw[if_pos ⟨c,.inl (by omega)⟩]
 · rw[if_neg (fun q=>c q.1),xU,if_neg c]
theorem F9 (l:List Int):vY l 1 0=List.replicate l.length (0,0):=by
 unfold vY
 have:(List.range l.length).map (fun j=>if 1≤l.getD j 0∧(l.getD j 0<(1:Nat)∨(l.getD j 0=(1:Nat)∧j<0))then xU l j else((0:Int),(0:Int)))=(List.range l.length).map (fun _=>((0:Int),(0:Int))):=by
  refine Q9 fun j hj=> ?_
  rw[if_neg (by omega)]
 rw[this,List.map_const',List.length_range]
theorem CT {l:List Int} {i:Nat} (hi:i<l.length) (b:Nat) (hb:1≤b):wh (l.take (i+1)) b=wh (l.take i) b+if l.getD i 0=(b:Int)then 1 else 0:=by
 have e:l.take (i+1)=l.take i++[l.getD i 0]:=by
  rw[List.take_add_one,QH hi,QF,QH hi];rfl
 rw[e,yG]
 congr 1
 by_cases c:l.getD i 0=(b:Int)
 · rw[if_pos ⟨by omega,c⟩,if_pos c]
 · rw[if_neg (fun q=>c q.2),if_neg c]
theorem zK:∀E:List (Int×Int),E.flatMap v9=ints (E.flatMap fun p=>[p.1,p.2])
 |[]=>rfl
 |p::E=>by rw[QM,QM,pd,zK E];rfl
theorem Bj:∀n,yA n [.int .i64 0,.int .i64 0]=(List.replicate n ((0:Int),(0:Int))).flatMap v9
 |0=>rfl
 | n + 1 => by
   have:=Bj n
   unfold yA at *
   rw[dx,this,List.replicate_succ,QM];rfl
def yH (l:List Int):AV:=yD 2 l.length ((uU l).flatMap v9)
def vu (l:List Int) (least:Nat):Nat→Nat
 |0=>least
 |i+1=>if i+1≤least then least else if 0<l.getD i 0 then i+1 else vu l least i
structure WX (h0 h:H) (w:Nat) (bs:List Nat) (ov:AV):Prop where
 wr:Wr h w bs ov
 ext:Ext h0 h
 lw:h0.next≤w
 ln:h0.next≤h.next
 lo:∀j,ov.id?=some j→h0.next≤j
theorem WX.step {h0 h h':H} {w:Nat} {bs bs':List Nat} {ov ov':AV} (x:WX h0 h w bs ov) (wr:Wr h' w bs' ov') (f:FY h w ov h' ov'):WX h0 h' w bs' ov':=
 ⟨wr,fun i c hi=>by
  have:=h0.lt _ _ hi
  have:=x.ln
  have:=x.lw
  rw[f.vE i (by omega) (by omega) (fun q=>by have:=x.lo i q;omega),x.ext i c hi],x.lw,by have:=f.next;have:=x.ln;omega,fun j hj=>by
  rcases f.ids j hj with q|q
  · exact x.lo j q
  · have:=x.ln;omega⟩
theorem WX.turn {h0 h h':H} {w:Nat} {bs:List Nat} {ov:AV} (x:WX h0 h w bs ov) (hf:h'.floor=h.floor) (hn:h.next≤h'.next) (hk:∀i,i<h.next→h'.get i=h.get i):WX h0 h' w bs ov:=
 ⟨⟨by rw [hk w (h.lt _ _ x.wr.get), x.wr.get], x.wr.own.mono hf fun i q => hk i (x.wr.own.lt q).2, by rw [hf]; exact x.wr.fl, by rw [hf]; exact uP x.wr.Ih hn, x.wr.ne, x.wr.GJ⟩,
   fun i c hi=>by have:=h0.lt _ _ hi;have:=x.ln;rw[hk i (by omega),x.ext i c hi],x.lw,uP x.ln hn,x.lo⟩
def zU (E:List (Int×Int)) (s:Nat):Prop:=∃n v:Nat,E[s]?=some ((n:Int),(v:Int))∧1≤n∧n≤15∧v<2^n
def u1 (E:List (Int×Int)) (s:Nat):List Nat:=xw (E.getD s (0,0)).2.toNat (E.getD s (0,0)).1.toNat
theorem zU.bits {E:List (Int×Int)} {s:Nat} (o:zU E s):∃n v:Nat,E[s]?=some ((n:Int),(v:Int))∧1≤n∧n≤15∧v<2^n∧u1 E s=xw v n:=by
 obtain⟨n,v,h,h1,h2,h3⟩:=o
 refine⟨n,v,h,h1,h2,h3, ?_⟩
 unfold u1
 rw[QF,h];rfl
theorem zU.lt {E:List (Int×Int)} {s:Nat} (o:zU E s):s<E.length:=by
 obtain⟨n,v,h,_⟩:=o
 exact(um.1 h).1
theorem xH.KH {h:H} {v:AV} {E:List (Int×Int)} (r:xH 2 h v E.length (E.flatMap v9)):∃ad:Int→AV,
 (∀i:Int,0≤i∧i<E.length→fB 2 v (.int .i64 i)=some (ad i))∧
 ∀g:H,Ext h g→∀(i:Nat) (p:Int×Int),E[i]?=some p→bN true 2 (ad i) g=some (.agg [.int .i64 p.1,.int .i64 p.2]):=by
 obtain⟨ad,a1,a2,_,a3⟩:=r.at_
 refine⟨fun i=>ad i 0,a1,fun g hg i t ht=> ?_⟩
 obtain⟨b1,b2⟩:=a3 g hg
 have hi:i<E.length:=(um.1 ht).1
 have hI:(0:Int)≤(i:Int)∧(i:Int)<E.length:=⟨by omega,by omega⟩
 have ti:((i:Int)).toNat=i:=by omega
 rw[b2 i hI,ti,DY ya ht];rfl
def vz (E D:List (Int×Int)) (t:Tok):List Nat:=
 if t.len=0 then u1 E t.lit.toNat
 else u1 E (wH t.len.toNat)++(vj (zF t.len.toNat) (yL t.len.toNat)++(u1 D (w9 t.vD.toNat)++vj (Ad t.vD.toNat) (zm t.vD.toNat)))
def vO (E D:List (Int×Int)) (ts:List Tok):List Nat:=ts.flatMap (vz E D)
def G7 (E D:List (Int×Int)) (t:Tok):Prop:=
 (t.len=0∧0≤t.lit∧zU E t.lit.toNat)∨(3≤t.len∧t.len≤258∧1≤t.vD∧t.vD≤32768∧zU E (wH t.len.toNat)∧zU D (w9 t.vD.toNat))
theorem D4 {k:Nat} (h1:3≤k) (h2:k≤258):yL k≤5∧zF k<2^yL k:=by
 obtain⟨a1,a2,a3,a4⟩:=xp h1 h2
 obtain⟨a,b,hab⟩:=zE a1 a2
 have:=Ci hab
 refine⟨by unfold yL;rw[hab];show b≤5;omega, ?_⟩
 unfold zF yL;omega
theorem DV {k:Nat} (h1:1≤k) (h2:k≤32768):zm k≤13∧Ad k<2^zm k:=by
 obtain⟨a2,a3,a4⟩:=xk h1 h2
 obtain⟨a,b,hab⟩:=yI a2
 have:=AB hab
 refine⟨by unfold zm;rw[hab];show b≤13;omega, ?_⟩
 unfold Ad zm;omega
theorem Bp {E D:List (Int×Int)} {t:Tok} (o:G7 E D t):(vz E D t).length≤48:=by
 rcases o with ⟨h1,h2,h3⟩|⟨h1,h2,h3,h4,h5,h6⟩
 · obtain⟨n,v,_,q1,q2,q3,q4⟩:=h3.bits
   rw[vz,if_pos h1,q4,vP];omega
 · obtain⟨n,v,_,q1,q2,q3,q4⟩:=h5.bits
   obtain⟨n',v',_,q1',q2',q3',q4'⟩:=h6.bits
   have l:=D4 (k:=t.len.toNat) (by omega) (by omega)
   have d:=DV (k:=t.vD.toNat) (by omega) (by omega)
   rw[vz,if_neg (by omega),q4,q4']
   simp only[uR,vP,vj,vt];omega
theorem A3 {E D:List (Int×Int)}:∀{ts:List Tok},(∀t∈ts,G7 E D t)→(vO E D ts).length≤48* ts.length
 |[],_=>by simp [vO]
 | t :: ts, h => by
   have a:=Bp (h t (by simp))
   have b:=A3 (E:=E) (D:=D) (ts:=ts) fun u hu=>h u (by simp [hu])
   unfold vO at *
   simp only[QM,uR,QG];omega
structure Ro (h:H) (f:Nat) (vs:List AV) (cs:List (List AV)):Prop where
 get:h.get f=some vs
 own:∀(i:Nat) (v:AV) (c:List AV),vs[i]?=some v→cs[i]?=some c→vG 1 h v c.length c
 len:vs.length=cs.length
 ne:∀(i:Nat) (v:AV),vs[i]?=some v→v.id?≠some f
 JO:∀(i j:Nat) (v u:AV),i≠j→vs[i]?=some v→vs[j]?=some u→∀id,v.id?=some id→u.id?≠some id
 fl:h.floor≤f
 Ih:h.floor≤h.next
structure Lo (h h':H):Prop where
 floor:h'.floor=h.floor
 next:h.next≤h'.next
 vE:∀i,i<h.floor→h'.get i=h.get i
theorem Lo.refl (h:H):Lo h h:=⟨rfl,uv _,fun _ _=>rfl⟩
theorem Lo.trans {a b c:H} (x:Lo a b) (y:Lo b c):Lo a c:=⟨y.floor.trans x.floor,uP x.next y.next,fun i hi=>(y.vE i (by rw[x.floor];exact hi)).trans (x.vE i hi)⟩
theorem Ext.lo {h0 a b:H} (x:Ext h0 a) (y:Lo a b) (hf:a.floor=h0.next):Ext h0 b:=fun i c hi=>by
 rw[y.vE i (by rw[hf];exact h0.lt _ _ hi),x i c hi]
theorem Ro.push {h : H} {f : Nat} {vs : List AV} {cs : List (List AV)} (r : Ro h f vs cs) (k : Nat) {v : AV} {c : List AV} (hv : vs[k]? = some v) (hc : cs[k]? = some c) (x : AV) (sc : x.sc = true) {z : Nat} (hz : roomy z (c.length + 1) = true) :
 ∃v' h1,j9 (h.alloc [x]) 1 z v (.aD h.next 0 1 1)=some (v',h1)∧h1.get f=some vs∧h1.floor=h.floor∧Ro (h1.set f (vs.set k v')) f (vs.set k v') (cs.set k (c++[x]))∧Lo h (h1.set f (vs.set k v')):=by
 have o:=r.own k v c hv hc
 have hfl:=h.lt _ _ r.get
 obtain⟨v',h1,p1,p2,p3,p4,p5,p6⟩:=o.push r.Ih (z:=z) (m:=1) (by omega) (by omega) [x] rfl (by simp [AV.aB,sc]) hz
 have hk:k<vs.length:=(um.1 hv).1
 have gf:h1.get f=some vs:=by rw[p5 f (r.ne k v hv) hfl,r.get]
 have key:∀(i:Nat) (u:AV),(vs.set k v')[i]?=some u→(i=k∧u=v')∨(i≠k∧vs[i]?=some u):=by
  intro i u hu
  by_cases e:k=i
  · subst e
    rw[QU,if_pos rfl,if_pos hk]at hu
    exact .inl ⟨rfl,(ud hu).symm⟩
  · rw[QU,if_neg e]at hu
    exact .inr ⟨fun q=>e q.symm,hu⟩
 have hU:∀(i:Nat) (u:AV),vs[i]?=some u→∀id,u.id?=some id→id<h.next:=by
  intro i u hu id hid
  have hi:i<cs.length:=by rw[←r.len];exact(um.1 hu).1
  exact((r.own i u _ hu (QH hi)).lt hid).2
 refine⟨v',h1,p1,gf,p3,⟨?_, ?_, ?_, ?_, ?_, ?_, ?_⟩,⟨by simp [p3],by simp;omega, ?_⟩⟩
 · rw[vi rfl,gf];rfl
 · intro i u d hu hd
   rcases key i u hu with ⟨rfl,rfl⟩|⟨hne,hu⟩
   · rw[QU,if_pos rfl,if_pos (by rw[←r.len];exact hk)]at hd
     obtain rfl:=ud hd
     have:(c++[x]).length=c.length+1:=by simp
     rw[this]
     exact p2.mono (by simp) fun j hj=>by rw[uV];rw[p6]at hj;have:=ud hj;omega
   · rw[QU,if_neg (fun q=>hne q.symm)]at hd
     exact(r.own i u d hu hd).mono (by simp [p3]) fun j hj=>by
      rw[uV (fun q=>r.ne i u hu (by rw[hj,q])),p5 j (fun q=>r.JO i k u v hne hu hv j hj q) (hU i u hu j hj)]
 · simp [r.len]
 · intro i u hu
   rcases key i u hu with ⟨rfl,rfl⟩|⟨hne,hu⟩
   · rw[p6];intro q;have:=ud q;omega
   · exact r.ne i u hu
 · intro i j u w hij hu hw id hid
   rcases key i u hu with ⟨e1,e2⟩|⟨hne,hu2⟩
   · rcases key j w hw with ⟨e3,e4⟩|⟨hne2,hw2⟩
     · exact absurd (e1.trans e3.symm) hij
     · intro q;have:=hU j w hw2 id q;rw[e2,p6]at hid;have:=ud hid;omega
   · rcases key j w hw with ⟨e3,e4⟩|⟨hne2,hw2⟩
     · intro q;have:=hU i u hu2 id hid;rw[e4,p6]at q;have:=ud q;omega
     · exact r.JO i j u w hij hu2 hw2 id hid
 · simpa [p3]using r.fl
 · simp [p3];have:=r.Ih;omega
 · intro i hi
   have:=r.fl
   rw[uV (by omega),p5 i (fun q=>by have:=(o.lt q).1;omega) (by have:=r.Ih;omega)]
theorem Ro.put {h:H} {f:Nat} {vs:List AV} {cs:List (List AV)} (r:Ro h f vs cs) (k i:Nat) {v:AV} {c:List AV} (hv:vs[k]?=some v) (hc:cs[k]?=some c) (x:AV) (sc:x.sc=true) (hi:i<c.length):
 ∃id,v=.aD id 0 c.length 1∧h.get id=some c∧h.floor≤id∧id≠f∧(∀(j:Nat) (u:AV),j≠k→vs[j]?=some u→u.id?≠some id)∧Ro (h.set id (c.set i x)) f vs (cs.set k (c.set i x))∧Lo h (h.set id (c.set i x)):=by
 have o:=r.own k v c hv hc
 rcases o.2 with ⟨_,q⟩|⟨id,q1,q2,q3,q4⟩
 · omega
 have hid:v.id?=some id:=by rw[q1];rfl
 have hne:id≠f:=fun q=>r.ne k v hv (by rw[hid,q])
 have hk:k<vs.length:=(um.1 hv).1
 refine⟨id,q1,q2,q3,hne,fun j u hj hu q=>r.JO j k u v hj hu hv id q hid,⟨?_, ?_, ?_,r.ne,r.JO,by simpa using r.fl,by simpa using r.Ih⟩,⟨by simp,by simp,fun j hj=>by rw[uV (by omega)]⟩⟩
 · rw[uV hne.symm,r.get]
 · intro j u d hu hd
   by_cases e:k=j
   · subst e
     rw[hv]at hu
     obtain rfl:=ud hu
     rw[QU,if_pos rfl,if_pos (by rw[←r.len];exact hk)]at hd
     obtain rfl:=ud hd
     have lc:(c.set i x).length=c.length:=Q1
     rw[lc]
     exact⟨by omega,.inr ⟨id,q1,by rw[vi rfl,q2];rfl,by simpa using q3,q4⟩⟩
   · rw[QU,if_neg e]at hd
     exact(r.own j u d hu hd).mono (by simp) fun m hm=>by rw[uV];intro q;subst q;exact r.JO j k u v (fun q=>e q.symm) hu hv m hm hid
 · simp [r.len]
def P3 (F:List Bool):List AV:=F.map .bool
abbrev P5 (W U:List Int) (F:List Bool):List (List AV):=[ints W,ints U,P3 F]
theorem vG.cells {n:Nat} {h:H} {v:AV} {k:Nat} {cs:List AV} (o:vG n h v k cs):v.cells=[v]:=by
 rcases o.2 with ⟨e,_⟩|⟨id,e,_⟩<;>rw[e]<;>rfl
def wk (W:List Int) (F:List Bool):Nat→Nat→Int→Int
 |0,_,a=>a
 |m+1,i,a=>wk W F m (i+1) (if F.getD i false=true∧(a<0∨W.getD i 0<W.getD a.toNat 0)then i else a)
def wG (W:List Int) (F:List Bool):Nat:=(wk W F W.length 0 (-1)).toNat
structure FS where
 W:List Int
 U:List Int
 F:List Bool
def FS.add (s:FS) (x:Int):FS:=⟨s.W++[x],s.U++[-1],s.F++[true]⟩
def FS.a (s:FS):Nat:=wG s.W s.F
def FS.F1 (s:FS):List Bool:=s.F.set s.a false
def FS.b (s:FS):Nat:=wG s.W s.F1
def FS.F2 (s:FS):List Bool:=s.F1.set s.b false
def FS.sum (s:FS):Int:=s.W.getD s.a 0+s.W.getD s.b 0
def FS.D5 (s:FS):FS:=FS.add ⟨s.W,(s.U.set s.a s.U.length).set s.b s.U.length,s.F2⟩ s.sum
structure FS.ok (s:FS):Prop where
 lu:s.U.length=s.W.length
 lf:s.F.length=s.W.length
 l1:0≤wk s.W s.F s.W.length 0 (-1)
 l2:0≤wk s.W s.F1 s.W.length 0 (-1)
 sm:0≤s.sum∧s.sum<1000000000000000
abbrev FS.C (s:FS):List (List AV):=P5 s.W s.U s.F
theorem xz (l:List Int) (i:Nat) (x:Int):(ints l).set i (.int .i64 x)=ints (l.set i x):=by simp [ints,List.map_set,I]
def FS.xB:Nat→FS→FS
 |0,s=>s
 |n+1,s=>FS.xB n s.D5
theorem FS.G5 (s:FS):s.D5.W.length=s.W.length+1:=by simp [FS.D5,FS.add]
theorem FS.Ao:∀(n:Nat) (s:FS),(FS.xB n s).W.length=s.W.length+n
 |0,s=>rfl
 |n+1,s=>by rw[FS.xB,FS.Ao n,FS.G5];omega
def Bq (ws:List Int):FS:=⟨ws,List.replicate ws.length (-1),List.replicate ws.length true⟩
def A4 (U:List Int):Nat→Int→Nat
 |0,_=>0
 |m+1,j=>if 0≤j then A4 U m (U.getD j.toNat (-1))+1 else 0
def GD (U:List Int):Prop:=∀j:Nat,j<U.length→U.getD j (-1)= -1∨((j:Int)<U.getD j (-1)∧U.getD j (-1)<U.length)
def DW (U:List Int) (n:Nat):List Int:=(List.range n).map fun i=>((A4 U U.length (U.getD i (-1)):Nat):Int)
theorem IC (U:List Int) (n:Nat):(DW U n).length=n:=by simp [DW]
def u6 (ws:List Int):List Int:=DW (FS.xB (ws.length-1) (Bq ws)).U ws.length
def Ii (u v:AV):Prop:=∀j,u.id?=some j→v.id?≠some j
theorem Ii.symm {u v:AV} (a:Ii u v):Ii v u:=fun j h q=>a j q h
def uZ:Nat→List Int→List Int
 |_,[]=>[]
 |i,c::r=>if 0<c then(i:Int)::uZ (i+1) r else uZ (i+1) r
def u0:List Int→List Int
 |[]=>[]
 |c::r=>if 0<c then c::u0 r else u0 r
theorem vG.yh {h:H} {v:AV} {cs:List AV} (o:vG 1 h v cs.length cs):Rd h v cs:=⟨o.rd.1,o.rd.2.2⟩
def vA:List Int→List Int→List Int→List Int
 |s::ss,d::ds,o=>vA ss ds (o.set s.toNat d)
 |_,_,o=>o
theorem vV:∀(ss ds o:List Int),(vA ss ds o).length=o.length
 |[],_,o=>by simp [vA]
 |s::ss,[],o=>by simp [vA]
 |s::ss,d::ds,o=>by rw[vA,vV ss ds,Q1]
def zG:List Int→Int→Int
 |[],m=>m
 |d::ds,m=>zG ds (Co m d)
theorem Ext.Hj {hb h:H} {o:Nat} (x:Ext hb h) (hn:hb.get o=none) (c:List AV):Ext hb (h.set o c):=fun i d q=>by
 have:i≠o:=fun e=>by rw[e,hn]at q;cases q
 rw[uV this,x i d q]
def xJ (w:Int):Int:=(w+1)/2
def vM (ws:List Int):List Int:=ws.map xJ
theorem y6 (ws:List Int):(vM ws).length=ws.length:=by simp [vM]
def G6 (ws:List Int):Prop:=ws=[]∨(1≤ws.length∧ws.length≤288∧(∀k,k<ws.length-1→(FS.xB k (Bq ws)).ok)∧GD (FS.xB (ws.length-1) (Bq ws)).U∧(FS.xB (ws.length-1) (Bq ws)).U.length=(FS.xB (ws.length-1) (Bq ws)).W.length)
theorem Hr (U:List Int):∀(m:Nat) (j:Int),A4 U m j≤m
 |0,j=>uv _
 | m + 1, j => by
   rw[A4]
   split
   · have:=Hr U m (U.getD j.toNat (-1));omega
   · omega
theorem ER {ws:List Int} (o:G6 ws):∀d∈u6 ws,0≤d∧d<1000:=by
 intro d hd
 rcases o with rfl|⟨h1,h2,_,_,h5⟩
 · simp [u6,DW]at hd
 · unfold u6 DW at hd
   obtain⟨i,_,rfl⟩:=QP.1 hd
   have:=Hr (FS.xB (ws.length-1) (Bq ws)).U (FS.xB (ws.length-1) (Bq ws)).U.length ((FS.xB (ws.length-1) (Bq ws)).U.getD i (-1))
   rw[h5,FS.Ao]at this
   rw[h5,FS.Ao]
   have:(Bq ws).W.length=ws.length:=rfl
   omega
theorem vQ (ws:List Int):(u6 ws).length=ws.length:=IC _ _
def xL (S:List Int):Nat→List Int→List Int→List Int
 |0,W,O=>vA S (u6 W) O
 |K+1,W,O=>xL S K (vM W) (vA S (u6 W) O)
theorem Ik {h:H} {v:AV} {k:Nat} {cs:List AV} (o:vG 1 h v k cs) (hk:0<k):∃id,v=.aD id 0 k 1∧h.get id=some cs∧h.floor≤id:=by
 rcases o.2 with ⟨_,q⟩|⟨id,q1,q2,q3,_⟩
 · omega
 · exact⟨id,q1,q2,q3⟩
inductive wo (most:Int):Nat→List Int→Prop
 |last {W:List Int}:G6 W→zG (u6 W) 0≤most→wo most 0 W
 |more {K:Nat} {W:List Int}:G6 W→most<zG (u6 W) 0→W≠[]→wo most K (vM W)→wo most (K+1) W
def At (S:List Int):List Int:=if S.length=1 then(if 0<S.getD 0 0 then [0,S.getD 0 0]else S++[1])else S
def Gn (S W:List Int):List Int:=if S.length=1 then(if 0<S.getD 0 0 then [1,W.getD 0 0]else W++[1])else W
theorem Kh {S W:List Int} (h:W.length=S.length):(Gn S W).length=(At S).length:=by
 unfold Gn At
 split
 · split
   · rfl
   · simp [h]
 · exact h
theorem vw:∀(i:Nat) (C:List Int),(uZ i C).length=(u0 C).length
 |i,[]=>rfl
 | i, c :: r => by
   rw[uZ,u0]
   split
   · simp [vw (i+1) r]
   · exact vw (i+1) r
theorem vW:∀(i:Nat) (C:List Int),(uZ i C).length≤C.length
 |i,[]=>uv _
 | i, c :: r => by
   have:=vW (i+1) r
   rw[uZ]
   split<;>simp<;>omega
theorem wv:∀(i:Nat) (C:List Int),∀s∈uZ i C,(i:Int)≤s∧s<i+C.length
 |i,[],s,h=>by simp [uZ]at h
 | i, c :: r, s, h => by
   rw[uZ]at h
   split at h
   · rcases uO.1 h with q|q
     · subst q;simp;omega
     · have:=wv (i+1) r s q;simp only[QG];omega
   · have:=wv (i+1) r s h;simp only[QG];omega
theorem xq:∀(C:List Int),∀y∈u0 C,y∈C∧0<y
 |[],y,h=>by simp [u0]at h
 | c :: r, y, h => by
   rw[u0]at h
   split at h
   · rcases uO.1 h with q|q
     · subst q;exact⟨by simp,by assumption⟩
     · have:=xq r y q;exact⟨by simp [this.1],this.2⟩
   · have:=xq r y h;exact⟨by simp [this.1],this.2⟩
theorem Jc {S : List Int} {n : Nat} (hn : 2 ≤ n) (h : ∀ s ∈ S, 0 ≤ s ∧ s < n) : ∀ s ∈ At S, 0 ≤ s ∧ s < n := by
 intro s hs
 unfold At at hs
 split at hs
 · split at hs
   · rename_i h1 h2
     rcases uO.1 hs with q|q
     · subst q;omega
     · simp at q
       subst q
       match S,h1 with
       |[t],_=>exact h t (by simp)
   · rcases Q7.1 hs with q|q
     · exact h s q
     · simp at q;subst q;omega
 · exact h s hs
theorem Fx {S:List Int} {n:Nat} (hn:2≤n) (h:S.length≤n):(At S).length≤n:=by
 unfold At
 split
 · split
   · simpa using hn
   · simp;omega
 · exact h
theorem yy (n:Nat):yA n [.int .i64 0]=ints (List.replicate n 0):=by
 unfold yA;rw[En];simp [ints,I]
def vS (C:List Int):List Int:=At (uZ 0 C)
def v8 (C:List Int):List Int:=Gn (uZ 0 C) (u0 C)
theorem Gf (C:List Int):(v8 C).length=(vS C).length:=Kh (vw 0 C).symm
def vL (C:List Int) (K:Nat):List Int:=xL (vS C) K (v8 C) (List.replicate C.length 0)
theorem Cg (W : List Int) (F : List Bool) : ∀ (m i : Nat) (a : Int), (a = -1 ∧ (∀ j, j < i → F.getD j false = false)) ∨ (∃ k : Nat, a = k ∧ k < i ∧ F.getD k false = true ∧ ∀ j, j < i → F.getD j false = true → W.getD k 0 ≤ W.getD j 0) →
 (wk W F m i a= -1∧(∀j,j<i+m→F.getD j false=false))∨(∃k:Nat,wk W F m i a=k∧k<i+m∧F.getD k false=true∧∀j,j<i+m→F.getD j false=true→W.getD k 0≤W.getD j 0)
 |0,i,a,h=>by simpa [wk]using h
 | m + 1, i, a, h => by
   rw[wk]
   have e:i+(m+1)=i+1+m:=by omega
   rw[e]
   refine Cg W F m (i+1) _ ?_
   by_cases c:F.getD i false=true∧(a<0∨W.getD i 0<W.getD a.toNat 0)
   · rw [if_pos c]
     refine .inr ⟨i,rfl,by omega,c.1,fun j hj hf=> ?_⟩
     by_cases q:j=i
     · subst q;exact Rg _
     · rcases h with ⟨_,h2⟩|⟨k,rfl,h1,h2,h3⟩
       · rw[h2 j (by omega)]at hf;cases hf
       · have:=h3 j (by omega) hf
         have tk:((k:Nat):Int).toNat=k:=by omega
         rw[tk]at c
         have:=c.2
         omega
   · rw [if_neg c]
     rcases h with ⟨rfl,h2⟩|⟨k,rfl,h1,h2,h3⟩
     · refine .inl ⟨rfl,fun j hj=> ?_⟩
       by_cases q:j=i
       · subst q
         cases e:F.getD j false with
         |false=>rfl
         |true=>exact absurd ⟨e,.inl (by omega)⟩ c
       · exact h2 j (by omega)
     · refine .inr ⟨k,rfl,by omega,h2,fun j hj hf=> ?_⟩
       by_cases q:j=i
       · subst q
         have tk:((k:Nat):Int).toNat=k:=by omega
         rw[tk]at c
         have:¬(W.getD j 0<W.getD k 0):=fun x=>c ⟨hf,.inr x⟩
         omega
       · exact h3 j (by omega) hf
theorem zD {W:List Int} {F:List Bool} (hl:F.length=W.length) {i:Nat} (hi:F.getD i false=true):0≤wk W F W.length 0 (-1)∧wG W F<W.length∧F.getD (wG W F) false=true∧∀j,F.getD j false=true→W.getD (wG W F) 0≤W.getD j 0:=by
 have hiL:∀j,F.getD j false=true→j<F.length:=by
  intro j hj
  rw[QF]at hj
  cases e:F[j]? with
  |none=>rw[e]at hj;cases hj
  |some b=>exact(um.1 e).1
 rcases Cg W F W.length 0 (-1) (.inl ⟨rfl,fun j hj=>by omega⟩)with ⟨_,h2⟩|⟨k,h1,h2,h3,h4⟩
 · have:=h2 i (by have:=hiL i hi;omega)
   rw[hi]at this;cases this
 · have ek:wG W F=k:=by unfold wG;rw[h1];omega
   rw[ek]
   exact⟨by omega,by omega,h3,fun j hj=>h4 j (by have:=hiL j hj;omega) hj⟩
def Kk (U:List Int):Nat→Nat→Nat→Prop
 |0,i,r=>i=r
 |d+1,i,r=>∃j:Nat,U[i]?=some (j:Int)∧Kk U d j r
theorem Cv {U:List Int}:∀{d i r:Nat} {j:Nat},Kk U d i r→U[r]?=some (j:Int)→Kk U (d+1) i j
 | 0, i, r, j, h, hj => by
   have:i=r:=h
   subst this
   exact⟨j,hj,rfl⟩
 |d+1,i,r,j,⟨k,h1,h2⟩,hj=>⟨k,h1,Cv h2 hj⟩
theorem Ek {U:List Int} (up:GD U):∀{d i r:Nat},Kk U d i r→U.getD r (-1)= -1→∀m,d≤m→A4 U m (U.getD i (-1))=d
 | 0, i, r, h, hr, m, hm => by
   have:i=r:=h
   subst this
   rw[hr]
   cases m with
   |zero=>rfl
   |succ m=>rw[A4,if_neg (by omega)]
 | d + 1, i, r, ⟨j, h1, h2⟩, hr, m, hm => by
   obtain⟨m,rfl⟩:∃k,m=k+1:=⟨m-1,by omega⟩
   have e:U.getD i (-1)=(j:Int):=by rw[QF,h1];rfl
   rw[e,A4,if_pos (by omega)]
   have tj:((j:Nat):Int).toNat=j:=by omega
   rw[tj,Ek up h2 hr m (by omega)]
theorem Ej {U:List Int} (up:GD U):∀{d i r:Nat},Kk U d i r→i+d≤r
 | 0, i, r, h => by
   have:i=r:=h
   omega
 | d + 1, i, r, ⟨j, h1, h2⟩ => by
   have:=Ej up h2
   have hi:=(um.1 h1).1
   have e:U.getD i (-1)=(j:Int):=by rw[QF,h1];rfl
   have:=up i hi
   rw[e]at this
   omega
def xA (U:List Int) (a b:Nat):List Int:=(U.set a U.length).set b U.length++[-1]
theorem Dk (U:List Int) (a b:Nat):(xA U a b).length=U.length+1:=by simp [xA]
theorem AM {U:List Int} {a b i:Nat} (hi:i<U.length) (ha:a≠i) (hb:b≠i):(xA U a b)[i]?=U[i]?:=by
 unfold xA
 rw[QQ (by simpa using hi),QU,if_neg hb,QU,if_neg ha]
theorem GZ {U:List Int} {a b:Nat} (ha:a<U.length):(xA U a b)[a]?=some (U.length:Int):=by
 unfold xA
 rw[QQ (by simpa using ha),QU]
 split
 · rename_i e;subst e;simp [ha]
 · rw[QU,if_pos rfl,if_pos ha]
theorem G0 {U:List Int} {a b:Nat} (hb:b<U.length):(xA U a b)[b]?=some (U.length:Int):=by
 unfold xA
 rw[QQ (by simpa using hb),QU,if_pos rfl,if_pos (by simpa using hb)]
theorem G2 {U:List Int} {a b:Nat}:(xA U a b)[U.length]?=some (-1):=by
 unfold xA
 rw[QR (by simp)];simp
theorem Au {U:List Int} {a b:Nat} (ha:U[a]?=some (-1)) (hb:U[b]?=some (-1)):∀{d i r:Nat},Kk U d i r→Kk (xA U a b) d i r
 |0,i,r,h=>h
 | d + 1, i, r, ⟨j, h1, h2⟩ => by
   refine⟨j, ?_,Au ha hb h2⟩
   rw[AM (um.1 h1).1 (fun e=>by rw[e,h1]at ha;have:=ud ha;omega) (fun e=>by rw[e,h1]at hb;have:=ud hb;omega),h1]
theorem Ic {U : List Int} {a b : Nat} (ha : a < U.length) (hb : b < U.length) (up : GD U) : GD (xA U a b) := by
 intro j hj
 rw[Dk]at hj ⊢
 by_cases e:j=U.length
 · subst e
   left
   rw[QF,G2];rfl
 · by_cases ea:a=j
   · subst ea
     right
     rw[QF,GZ ha]
     simp;omega
   · by_cases eb:b=j
     · subst eb
       right
       rw[QF,G0 hb]
       simp;omega
     · have:=up j (by omega)
       rw[QF,AM (by omega) ea eb,←QF]
       omega
theorem FS.O4 (s:FS):s.D5.U=xA s.U s.a s.b:=rfl
abbrev Tr:=Nat×List (Nat×Nat)
def kr (D:Nat) (l:List (Nat×Nat)):Nat:=(l.map fun p=>2^(D-p.2)).sum
structure xO (bal:Bool) (n:Nat) (tot:Int) (s:FS) (T:List Tr):Prop where
 lu:s.U.length=s.W.length
 lf:s.F.length=s.W.length
 root:∀t∈T,s.F.getD t.1 false=true∧s.U[t.1]?=some (-1)
 free:∀i,s.F.getD i false=true→∃t∈T,t.1=i
 nd:(T.map (·.1)).Nodup
 pt:∀t∈T,∀p∈t.2,Kk s.U p.2 p.1 t.1
 leaves:(T.flatMap fun t=>t.2.map (·.1)).Perm (List.range n)
 Cf:∀t∈T,∀D,(∀p∈t.2,p.2≤D)→kr D t.2=2^D
 ne:∀t∈T,t.2≠[]
 GF:∀t∈T,1≤s.W.getD t.1 0
 up:GD s.U
 sum:(T.map fun t=>s.W.getD t.1 0).sum=tot
 JU:bal=true→∀t∈T,∀u∈T,s.W.getD t.1 0≤2* s.W.getD u.1 0
 HB:bal=true→∀t∈T,∀p∈t.2,(3:Int)^p.2≤s.W.getD t.1 0* 2^p.2
theorem H3 {l l':List Int} (p:l.Perm l'):l.sum=l'.sum:=by
 induction p with
 |nil=>rfl
 |cons x _ ih=>simp only[Q4,ih]
 |swap x y l=>simp only[Q4];omega
 |trans _ _ h1 h2=>exact h1.trans h2
theorem Dz {l l':List Nat} (p:l.Perm l'):l.sum=l'.sum:=by
 induction p with
 |nil=>rfl
 |cons x _ ih=>simp only[Q4,ih]
 |swap x y l=>simp only[Q4];omega
 |trans _ _ h1 h2=>exact h1.trans h2
theorem xO.perm {bal:Bool} {n:Nat} {tot:Int} {s:FS} {T T':List Tr} (v:xO bal n tot s T) (p:T.Perm T'):xO bal n tot s T' where
 lu:=v.lu
 lf:=v.lf
 root t h:=v.root t (p.mem_iff.2 h)
 free i h:=by
  obtain⟨t,h1,h2⟩:=v.free i h
  exact⟨t,p.mem_iff.1 h1,h2⟩
 nd:=(p.map _).nodup_iff.1 v.nd
 pt t h:=v.pt t (p.mem_iff.2 h)
 leaves:=((p.flatMap_right _).symm).trans v.leaves
 Cf t h:=v.Cf t (p.mem_iff.2 h)
 ne t h:=v.ne t (p.mem_iff.2 h)
 GF t h:=v.GF t (p.mem_iff.2 h)
 up:=v.up
 sum:=by rw[←v.sum];exact(H3 (p.map _)).symm
 JU hb t h u h2:=v.JU hb t (p.mem_iff.2 h) u (p.mem_iff.2 h2)
 HB hb t h:=v.HB hb t (p.mem_iff.2 h)
def wJ (l:List (Nat×Nat)):List (Nat×Nat):=l.map fun p=>(p.1,p.2+1)
theorem HR {D:Nat} {l:List (Nat×Nat)}:kr (D+1) (wJ l)=kr D l:=by
 unfold kr wJ
 rw[List.map_map]
 congr 1
 refine Q9 fun p _=> ?_
 show 2^(D+1-(p.2+1))=_
 rw[Nat.add_sub_add_right]
theorem Nc (D:Nat) (a b:List (Nat×Nat)):kr D (a++b)=kr D a+kr D b:=by simp [kr]
theorem getD_set_ne {α:Type} {l:List α} {i j:Nat} {x d:α} (h:i≠j):(l.set i x).getD j d=l.getD j d:=by
 rw[QF,QU,if_neg h,←QF]
theorem yn {l:List Bool} {i:Nat}:(l.set i false).getD i false=false:=by
 rw[QF,QU,if_pos rfl]
 split<;>rfl
theorem xO.two {bal:Bool} {n:Nat} {tot:Int} {s:FS} {T:List Tr} (v:xO bal n tot s T) (h2:2≤T.length):
 ∃ta tb T2,T.Perm (ta::tb::T2)∧ta.1=s.a∧tb.1=s.b∧0≤wk s.W s.F s.W.length 0 (-1)∧0≤wk s.W s.F1 s.W.length 0 (-1)∧s.W.getD s.a 0≤s.W.getD s.b 0∧(∀t∈T2,s.W.getD s.b 0≤s.W.getD t.1 0):=by
 obtain⟨t0,t1,T0,rfl⟩:∃t0 t1 T0,T=t0::t1::T0:=by
  match T,h2 with
  |t0::t1::T0,_=>exact⟨t0,t1,T0,rfl⟩
 obtain⟨l1,la,fa,ma⟩:=zD v.lf (v.root t0 (by simp)).1
 obtain⟨ta,hta,ea⟩:=v.free _ fa
 have p1:=List.perm_cons_erase hta
 have v1:=v.perm p1
 obtain⟨T1,eT1⟩:∃T1,T1=(t0::t1::T0).erase ta:=⟨_,rfl⟩
 rw[←eT1]at p1 v1
 have lT1:T1≠[]:=by
  intro e
  have:=p1.length_eq
  rw[e]at this
  simp at this
 obtain⟨tx,hx⟩:=List.exists_mem_of_ne_nil _ lT1
 have nd1:∀t∈T1,t.1≠ta.1:=by
  intro t ht e
  have:=v1.nd
  rw[QO,Rk]at this
  exact this.1 (QP.2 ⟨t,ht,e⟩)
 have f1:∀t∈T1,s.F1.getD t.1 false=true:=by
  intro t ht
  have:=(v1.root t (by simp [ht])).1
  show(s.F.set s.a false).getD t.1 false=true
  rw[getD_set_ne (by have:=nd1 t ht;intro e;exact this (by rw[ea,←e];rfl)),this]
 obtain⟨l2,lb,fb,mb⟩:=zD (W:=s.W) (F:=s.F1) (by show(s.F.set s.a false).length=_;rw[Q1];exact v.lf) (f1 tx hx)
 have hnb:s.a≠s.b:=by
  intro e
  have fb':s.F1.getD s.b false=true:=fb
  rw[←e]at fb'
  have:(s.F.set s.a false).getD s.a false=true:=fb'
  rw[yn]at this;cases this
 have fb2:s.F.getD s.b false=true:=by
  have fb':(s.F.set s.a false).getD s.b false=true:=fb
  rwa [getD_set_ne hnb]at fb'
 obtain⟨tb,htb,eb⟩:=v1.free _ fb2
 have htb1:tb∈T1:=by
  rcases uO.1 htb with q|q
  · subst q;exact absurd (ea.symm.trans eb) hnb
  · exact q
 have p2:=List.perm_cons_erase htb1
 refine⟨ta,tb,T1.erase tb,p1.trans (p2.cons ta),ea,eb,l1,l2,ma _ fb2,fun t ht=>mb _ (f1 t (List.mem_of_mem_erase ht))⟩
theorem xO.JB {bal : Bool} {n : Nat} {tot : Int} {s : FS} {T T2 : List Tr} {ta tb : Tr} (v : xO bal n tot s T) (p : T.Perm (ta :: tb :: T2)) (ea : ta.1 = s.a) (eb : tb.1 = s.b) (l1 : 0 ≤ wk s.W s.F s.W.length 0 (-1)) (l2 : 0 ≤ wk s.W s.F1 s.W.length 0 (-1)) (wab : s.W.getD s.a 0 ≤ s.W.getD s.b 0) (wbt : ∀ t ∈ T2, s.W.getD s.b 0 ≤ s.W.getD t.1 0) (ht : tot < 1000000000000000) : s.ok ∧ xO bal n tot s.D5 ((s.U.length, wJ (ta.2 ++ tb.2)) :: T2) := by
 have lT:=p.length_eq
 have v1:=v.perm p
 have nd:=v1.nd
 rw[QO,QO,Rk,Rk]at nd
 obtain⟨nd1,nd2,nd3⟩:=nd
 have ra:=v1.root ta (by simp)
 have rb:=v1.root tb (by simp)
 rw[ea]at ra
 rw[eb]at rb
 have hla:s.a<s.U.length:=(um.1 ra.2).1
 have hlb:s.b<s.U.length:=(um.1 rb.2).1
 have wa:=v1.GF ta (by simp)
 have wb1:=v1.GF tb (by simp)
 rw[ea]at wa
 rw[eb]at wb1
 have sm:=v1.sum
 rw[QO,QO,Q4,Q4,ea,eb]at sm
 have nn:0≤(T2.map fun t=>s.W.getD t.1 0).sum:=by
  have:∀l:List Tr,(∀t∈l,1≤s.W.getD t.1 0)→0≤(l.map fun t=>s.W.getD t.1 0).sum:=by
   intro l
   induction l with
   |nil=>intro _;simp
   |cons x l ih=>intro h;have:=ih fun t ht=>h t (by simp [ht]);have:=h x (by simp);simp only[QO,Q4];omega
  exact this T2 fun t ht=>v1.GF t (by simp [ht])
 have es:s.sum=s.W.getD s.a 0+s.W.getD s.b 0:=rfl
 refine⟨⟨v.lu,v.lf,l1,l2,by omega⟩, ?_⟩
 have nT2:∀t∈T2,t.1≠s.a∧t.1≠s.b∧t.1<s.U.length:=fun t ht=>⟨fun e=>nd1 (by simp only[uO,QP];exact .inr ⟨t,ht,by rw[e,ea]⟩),fun e=>nd2 (QP.2 ⟨t,ht,by rw[e,eb]⟩),(um.1 (v1.root t (by simp [ht])).2).1⟩
 have mW:∀i,i<s.W.length→s.D5.W.getD i 0=s.W.getD i 0:=fun i hi=>by
  show(s.W++[s.sum]).getD i 0=_
  rw[QF,QQ hi,←QF]
 have mWn:s.D5.W.getD s.U.length 0=s.sum:=by
  show(s.W++[s.sum]).getD s.U.length 0=_
  rw[v.lu,QF,QR (uv _)];simp
 have lF2:s.F2.length=s.W.length:=by show((s.F.set s.a false).set s.b false).length=_;rw[Q1,Q1,v.lf]
 have mF:∀i,i<s.W.length→s.D5.F.getD i false=s.F2.getD i false:=fun i hi=>by
  show(s.F2++[true]).getD i false=_
  rw[QF,QQ (by omega),←QF]
 have mFn:s.D5.F.getD s.U.length false=true:=by
  show(s.F2++[true]).getD s.U.length false=_
  rw[v.lu,QF,QR (by omega),lF2];simp
 have F2o:∀i,i≠s.a→i≠s.b→s.F2.getD i false=s.F.getD i false:=fun i h1 h2=>by
  show((s.F.set s.a false).set s.b false).getD i false=_
  rw[getD_set_ne h2.symm,getD_set_ne h1.symm]
 have F2a:s.a≠s.b→s.F2.getD s.a false=false:=fun h=>by
  show((s.F.set s.a false).set s.b false).getD s.a false=_
  rw[getD_set_ne h.symm,yn]
 have F2b:s.F2.getD s.b false=false:=yn
 have hab:s.a≠s.b:=fun e=>nd1 (by simp only[uO];exact .inl (by rw[ea,eb,e]))
 have jl:∀p∈ta.2++tb.2,Kk (xA s.U s.a s.b) (p.2+1) p.1 s.U.length:=fun q hq=>by
  rcases Q7.1 hq with h|h
  · have:=v1.pt ta (by simp) q h
    rw[ea]at this
    exact Cv (Au ra.2 rb.2 this) (GZ hla)
  · have:=v1.pt tb (by simp) q h
    rw[eb]at this
    exact Cv (Au ra.2 rb.2 this) (G0 hlb)
 have lu:=v.lu
 have lf:=v.lf
 have getT2:∀t∈T2,s.D5.W.getD t.1 0=s.W.getD t.1 0:=fun t ht=>mW _ (by have:=(nT2 t ht).2.2;omega)
 have W2:∀t∈(s.U.length,wJ (ta.2++tb.2))::T2,(t.1=s.U.length∧t.2=wJ (ta.2++tb.2)∧s.D5.W.getD t.1 0=s.sum)∨(t∈T2∧s.D5.W.getD t.1 0=s.W.getD t.1 0):=fun t ht=>by
  rcases uO.1 ht with q|q
  · subst q;exact .inl ⟨rfl,rfl,mWn⟩
  · exact .inr ⟨q,getT2 t q⟩
 constructor
 · show(xA s.U s.a s.b).length=(s.W++[s.sum]).length
   rw[Dk];simp [lu]
 · show(s.F2++[true]).length=(s.W++[s.sum]).length
   simp [lF2]
 · intro t ht
   rcases uO.1 ht with q|q
   · subst q
     exact⟨mFn,G2⟩
   · have n:=nT2 t q
     have r:=v1.root t (by simp [q])
     refine⟨by rw[mF _ (by omega),F2o _ n.1 n.2.1];exact r.1, ?_⟩
     rw[FS.O4,AM n.2.2 n.1.symm n.2.1.symm];exact r.2
 · intro i hi
   by_cases e:i=s.U.length
   · exact⟨_,List.mem_cons_self ..,e.symm⟩
   · have hiL:i<s.W.length:=by
      apply Q0
      intro c
      have:s.D5.F.length=s.W.length+1:=by show(s.F2++[true]).length=_;simp [lF2]
      rw[QF,QT (by omega)]at hi
      cases hi
     rw[mF i hiL]at hi
     have h1:i≠s.a:=fun q=>by rw[q,F2a hab]at hi;cases hi
     have h2:i≠s.b:=fun q=>by rw[q,F2b]at hi;cases hi
     rw[F2o i h1 h2]at hi
     obtain⟨t,ht,et⟩:=v1.free i hi
     rcases uO.1 ht with q|q
     · subst q;exact absurd (et.symm.trans ea) h1
     · rcases uO.1 q with q|q
       · subst q;exact absurd (et.symm.trans eb) h2
       · exact⟨t,Rc _ q,et⟩
 · rw[QO,Rk]
   refine⟨fun hm=> ?_,nd3⟩
   obtain⟨t,ht,e⟩:=QP.1 hm
   have:=(nT2 t ht).2.2
   rw[e]at this
   exact absurd this (by simp)
 · intro t ht
   rcases uO.1 ht with q|q
   · subst q
     intro q hq
     obtain⟨q',hq',rfl⟩:=QP.1 hq
     exact jl q' hq'
   · intro x hx
     exact Au ra.2 rb.2 (v1.pt t (by simp [q]) x hx)
 · have lv:=v1.leaves
   refine List.Perm.trans ?_ lv
   rw[QM,QM,QM,←QS]
   have:(wJ (ta.2++tb.2)).map (·.1)=ta.2.map (·.1)++tb.2.map (·.1):=by
    unfold wJ;rw[List.map_map,List.map_append];rfl
   rw[this]
 · intro t ht
   rcases uO.1 ht with q|q
   · subst q
     intro D hD
     have hne:=v1.ne ta (by simp)
     obtain⟨x,hx⟩:=List.exists_mem_of_ne_nil _ hne
     have h1:=hD (x.1,x.2+1) (QP.2 ⟨x,List.mem_append_left _ hx,rfl⟩)
     obtain⟨D,rfl⟩:∃E,D=E+1:=⟨D-1,by simp at h1;omega⟩
     rw[HR,Nc]
     rw[v1.Cf ta (by simp) D fun y hy=>by have:=hD (y.1,y.2+1) (QP.2 ⟨y,List.mem_append_left _ hy,rfl⟩);simp at this;omega]
     rw[v1.Cf tb (by simp) D fun y hy=>by have:=hD (y.1,y.2+1) (QP.2 ⟨y,List.mem_append_right _ hy,rfl⟩);simp at this;omega]
     rw[Nat.pow_succ];omega
   · exact v1.Cf t (by simp [q])
 · intro t ht
   rcases uO.1 ht with q|q
   · subst q
     have hne:=v1.ne ta (by simp)
     intro e
     have:wJ (ta.2++tb.2)=[]:=e
     unfold wJ at this
     rw[List.map_eq_nil_iff,List.append_eq_nil_iff]at this
     exact hne this.1
   · exact v1.ne t (by simp [q])
 · intro t ht
   rcases W2 t ht with ⟨_,_,e⟩|⟨q,e⟩
   · rw[e];omega
   · rw[e];exact v1.GF t (by simp [q])
 · exact Ic hla hlb v.up
 · rw[QO,Q4,mWn,Q9 getT2];omega
 · intro hb t ht u hu
   have b1:=v1.JU hb
   have ba:=b1 tb (by simp) ta (by simp)
   rw[ea,eb]at ba
   rcases W2 t ht with ⟨_,_,e⟩|⟨q,e⟩
   · rcases W2 u hu with ⟨_,_,e'⟩|⟨q',e'⟩
     · rw[e,e'];omega
     · rw[e,e'];have:=wbt u q';omega
   · rcases W2 u hu with ⟨_,_,e'⟩|⟨q',e'⟩
     · rw[e,e'];have:=b1 t (by simp [q]) ta (by simp);rw[ea]at this;omega
     · rw[e,e'];exact b1 t (by simp [q]) u (by simp [q'])
 · intro hb t ht x hx
   have b1:=v1.JU hb
   have ba:=b1 tb (by simp) ta (by simp)
   have bb:=b1 ta (by simp) tb (by simp)
   rw[ea,eb]at ba bb
   rcases W2 t ht with ⟨_,e2,e⟩|⟨q,e⟩
   · rw[e]
     rw[e2]at hx
     obtain⟨y,hy,rfl⟩:=QP.1 hx
     have p2:(0:Int)<2^y.2:=Int.pow_pos (by omega)
     show(3:Int)^(y.2+1)≤s.sum* 2^(y.2+1)
     rw[Int.pow_succ,Int.pow_succ]
     have key:∀w:Int,(3:Int)^y.2≤w* 2^y.2→3* w≤2* s.sum→(3:Int)^y.2* 3≤s.sum* (2^y.2* 2):=fun w h1 h2=>by
      have a1:(3:Int)^y.2* 3≤(w* 2^y.2)* 3:=Int.mul_le_mul_of_nonneg_right h1 (by omega)
      have a2:(3* w)* 2^y.2≤(2* s.sum)* 2^y.2:=Int.mul_le_mul_of_nonneg_right h2 (by omega)
      have a3:(w* 2^y.2)* 3=(3* w)* 2^y.2:=by rw[Int.mul_comm 3 w,Int.mul_assoc,Int.mul_assoc,Int.mul_comm _ 3]
      have a4:s.sum* (2^y.2* 2)=(2* s.sum)* 2^y.2:=by rw[Int.mul_comm 2 s.sum,Int.mul_assoc,Int.mul_comm 2 (2^y.2)]
      omega
     rcases Q7.1 hy with h|h
     · have:=v1.HB hb ta (by simp) y h
       rw[ea]at this
       exact key _ this (by omega)
     · have:=v1.HB hb tb (by simp) y h
       rw[eb]at this
       exact key _ this (by omega)
   · rw[e];exact v1.HB hb t (by simp [q]) x hx
theorem xO.step {bal:Bool} {n:Nat} {tot:Int} {s:FS} {T:List Tr} (v:xO bal n tot s T) (h2:2≤T.length) (ht:tot<1000000000000000):s.ok∧∃T',T'.length+1=T.length∧xO bal n tot s.D5 T':=by
 obtain⟨ta,tb,T2,p,ea,eb,l1,l2,wab,wbt⟩:=v.two h2
 have lT:=p.length_eq
 obtain⟨a,b⟩:=v.JB p ea eb l1 l2 wab wbt ht
 exact⟨a,_,by rw[lT];simp,b⟩
def T0 (n:Nat):List Tr:=(List.range n).map fun i=>(i,[(i,0)])
theorem CH:∀(ws:List Int),((List.range ws.length).map fun i=>ws.getD i 0).sum=ws.sum:=by
 intro ws
 have:(List.range ws.length).map (fun i=>ws.getD i 0)=ws:=by
  apply List.ext_getElem?
  intro i
  rw[uG]
  by_cases h:i<ws.length
  · rw[Q8 h,QH h];simp [QF,h]
  · rw[QT (by simp;omega),QT (by omega)];rfl
 rw[this]
theorem zc {α:Type} {n i:Nat} {x d:α} (h:i<n):(List.replicate n x).getD i d=x:=by
 rw[QF,Q3,if_pos h];rfl
theorem xO.init (ws : List Int) (bal : Bool) (pos : ∀ y ∈ ws, 1 ≤ y) (hb : bal = true → ∀ y ∈ ws, y = 1) : xO bal ws.length ws.sum (Bq ws) (T0 ws.length) := by
 have mem:∀t∈T0 ws.length,∃i,i<ws.length∧t=(i,[(i,0)]):=fun t ht=>by
  obtain⟨i,hi,rfl⟩:=QP.1 ht
  exact⟨i,List.mem_range.1 hi,rfl⟩
 have gw:∀i,i<ws.length→ws.getD i 0∈ws:=fun i hi=>by
  rw[QF,QH hi];exact QW hi
 constructor
 · simp [Bq]
 · simp [Bq]
 · intro t ht
   obtain⟨i,hi,rfl⟩:=mem t ht
   exact⟨zc hi,by show(List.replicate ws.length (-1:Int))[i]?=_;rw[Q3,if_pos hi]⟩
 · intro i hi
   have:i<ws.length:=by
    apply Q0
    intro c
    have e:(Bq ws).F.getD i false=false:=by
     show(List.replicate ws.length true).getD i false=false
     rw[QF,QT (by simp;omega)];rfl
    rw[e]at hi;cases hi
   exact⟨(i,[(i,0)]),QP.2 ⟨i,List.mem_range.2 this,rfl⟩,rfl⟩
 · unfold T0
   rw[List.map_map]
   have:((fun t:Tr=>t.1)∘fun i=>((i,[(i,0)]):Tr))=id:=rfl
   rw[this,List.map_id];exact List.nodup_range
 · intro t ht q hq
   obtain⟨i,hi,rfl⟩:=mem t ht
   simp at hq
   subst hq
   exact rfl
 · have:(T0 ws.length).flatMap (fun t=>t.2.map (·.1))=List.range ws.length:=by
    unfold T0
    rw[List.flatMap_map]
    have:∀l:List Nat,(l.flatMap fun i=>([(i,0)]:List (Nat×Nat)).map (·.1))=l:=by
     intro l
     induction l with
     |nil=>rfl
     |cons x l ih=>rw[QM,ih];rfl
    exact this _
   rw[this]
 · intro t ht D _
   obtain⟨i,hi,rfl⟩:=mem t ht
   simp [kr]
 · intro t ht
   obtain⟨i,hi,rfl⟩:=mem t ht
   simp
 · intro t ht
   obtain⟨i,hi,rfl⟩:=mem t ht
   exact pos _ (gw i hi)
 · intro j hj
   have:j<ws.length:=by simpa [Bq]using hj
   exact .inl (zc this)
 · unfold T0
   rw[List.map_map]
   exact CH ws
 · intro h t ht u hu
   obtain⟨i,hi,rfl⟩:=mem t ht
   obtain⟨j,hj,rfl⟩:=mem u hu
   have a:=hb h _ (gw i hi)
   have b:=hb h _ (gw j hj)
   show ws.getD i 0≤2* ws.getD j 0
   omega
 · intro h t ht q hq
   obtain⟨i,hi,rfl⟩:=mem t ht
   simp at hq
   subst hq
   have a:=hb h _ (gw i hi)
   show(3:Int)^0≤ws.getD i 0* 2^0
   rw[a];simp
theorem xO.run {bal:Bool} {n:Nat} {tot:Int} (ht:tot<1000000000000000):∀(m:Nat) (s:FS) (T:List Tr),xO bal n tot s T→T.length=m+1→(∀k,k<m→(FS.xB k s).ok)∧∃t,xO bal n tot (FS.xB m s) [t]
 | 0, s, T, v, h => by
   refine⟨fun k hk=>by omega, ?_⟩
   match T,h with
   |[t],_=>exact⟨t,v⟩
 | m + 1, s, T, v, h => by
   obtain⟨ok,T',hl,v'⟩:=v.step (by omega) ht
   obtain⟨h1,t,h2⟩:=xO.run ht m s.D5 T' v' (by omega)
   refine⟨fun k hk=> ?_,t,h2⟩
   cases k with
   |zero=>exact ok
   |succ k=>exact h1 k (by omega)
theorem M9 (ws:List Int) (bal:Bool) (h1:1≤ws.length) (pos:∀y∈ws,1≤y) (hs:ws.sum<1000000000000000) (hb:bal=true→∀y∈ws,y=1):
 (∀k,k<ws.length-1→(FS.xB k (Bq ws)).ok)∧GD (FS.xB (ws.length-1) (Bq ws)).U∧(FS.xB (ws.length-1) (Bq ws)).U.length=(FS.xB (ws.length-1) (Bq ws)).W.length∧
 (∀D:Nat,(∀d∈u6 ws,d≤(D:Int))→((u6 ws).map fun d=>2^(D-d.toNat)).sum=2^D)∧
 (bal=true→∀d∈u6 ws,(3:Int)^d.toNat≤ws.sum* 2^d.toNat)∧(2≤ws.length→∀d∈u6 ws,1≤d):=by
 obtain⟨ok,t,v⟩:=xO.run hs (ws.length-1) (Bq ws) (T0 ws.length) (xO.init ws bal pos hb) (by simp [T0];omega)
 obtain⟨S,hS⟩:∃S,S=FS.xB (ws.length-1) (Bq ws):=⟨_,rfl⟩
 have eD:u6 ws=DW S.U ws.length:=by rw[hS];rfl
 rw[←hS]at v ⊢
 have up:=v.up
 have rt:=(v.root t (by simp)).2
 have rtD:S.U.getD t.1 (-1)= -1:=by rw[QF,rt];rfl
 have rl:=(um.1 rt).1
 have lv:=v.leaves
 simp only[QM,List.flatMap_nil,QY]at lv
 have dep:∀q∈t.2,A4 S.U S.U.length (S.U.getD q.1 (-1))=q.2:=fun q hq=>by
  have:=v.pt t (by simp) q hq
  have l:=Ej up this
  exact Ek up this rtD _ (by omega)
 have pm:(u6 ws).Perm (t.2.map fun q=>((q.2:Nat):Int)):=by
  rw[eD]
  unfold DW
  have:=lv.symm.map (fun i=>((A4 S.U S.U.length (S.U.getD i (-1)):Nat):Int))
  refine this.trans ?_
  rw[List.map_map]
  have e:t.2.map ((fun i=>((A4 S.U S.U.length (S.U.getD i (-1)):Nat):Int))∘fun x=>x.1)=t.2.map fun q=>((q.2:Nat):Int):=Q9 fun q hq=>by
   show((A4 S.U S.U.length (S.U.getD q.1 (-1)):Nat):Int)=_
   rw[dep q hq]
  rw[e]
 have mem:∀d∈u6 ws,∃q∈t.2,d=((q.2:Nat):Int):=fun d hd=>by
  obtain⟨q,hq,rfl⟩:=QP.1 (pm.mem_iff.1 hd)
  exact⟨q,hq,rfl⟩
 refine⟨ok,up,v.lu,fun D hD=> ?_,fun hbt d hd=> ?_,fun h2 d hd=> ?_⟩
 · have:=Dz (pm.map fun d=>2^(D-d.toNat))
   rw[this,List.map_map]
   have kk:=v.Cf t (by simp) D fun q hq=>by
    have:=hD ((q.2:Nat):Int) (pm.mem_iff.2 (QP.2 ⟨q,hq,rfl⟩))
    omega
   rw[←kk]
   unfold kr
   congr 1
 · obtain⟨q,hq,rfl⟩:=mem d hd
   have:=v.HB hbt t (by simp) q hq
   have sm:=v.sum
   rw[QO,Rj,Q4,List.sum_nil,Int.add_zero]at sm
   rw[←sm]
   exact this
 · obtain⟨q,hq,rfl⟩:=mem d hd
   have pq:=v.pt t (by simp) q hq
   apply Q0
   intro c
   have z:q.2=0:=by omega
   rw[z]at pq
   have e:q.1=t.1:=pq
   have ql:q.1<ws.length:=List.mem_range.1 (lv.mem_iff.1 (QP.2 ⟨q,hq,rfl⟩))
   have rr:S.W.length=ws.length+(ws.length-1):=by rw[hS,FS.Ao];rfl
   have kk:∀D,(∀p∈t.2,p.2≤D)→kr D t.2=2^D:=v.Cf t (by simp)
   obtain⟨D,hDD⟩:∃D,∀p∈t.2,p.2≤D:=⟨t.1,fun p hp=>by have:=Ej up (v.pt t (by simp) p hp);omega⟩
   have k:=kk D hDD
   have l2:t.2.length=ws.length:=by
    have:=lv.length_eq
    simpa using this
   have pe:=List.perm_cons_erase hq
   have:kr D t.2=kr D (q::t.2.erase q):=Dz (pe.map _)
   rw[this]at k
   have:kr D (q::t.2.erase q)=2^(D-q.2)+kr D (t.2.erase q):=by simp [kr]
   rw[this,z,Nat.sub_zero]at k
   have le:=pe.length_eq
   rw[QG]at le
   cases hE:t.2.erase q with
   |nil=>rw[hE]at le;simp at le;omega
   | cons y r =>
     rw[hE]at k
     have:kr D (y::r)=2^(D-y.2)+kr D r:=by simp [kr]
     have:=Nat.pow_pos (n:=D-y.2) (show 0<2 by omega)
     omega
def wq (l:List Int) (i:Nat):List Int:=l.set i (l.getD i 0+1)
theorem wD (l:List Int) (i:Nat):(wq l i).length=l.length:=by simp [wq]
theorem xX {l:List Int} {i:Nat} {n:Int} (h:∀y∈l,0≤y∧y≤n) (hn:0≤n):∀y∈wq l i,0≤y∧y≤n+1:=by
 intro y hy
 rcases Ra hy with q|q
 · have:=h y q;omega
 · subst q
   rw[QF]
   cases e:l[i]? with
   |none=>simp;omega
   |some z=>have:=h z (uz e);simp;omega
def xe (t:Tok):Prop:=(t.len=0∧0≤t.lit∧t.lit≤255)∨(3≤t.len∧t.len≤258∧1≤t.vD∧t.vD≤32768)
def yF:List Tok→List Int→List Int
 |[],A=>A
 |t::r,A=>yF r (if t.len=0 then wq A t.lit.toNat else wq A (wH t.len.toNat))
def zk:List Tok→List Int→List Int
 |[],B=>B
 |t::r,B=>zk r (if t.len=0 then B else wq B (w9 t.vD.toNat))
structure JN (h h':H) (a b:Nat):Prop where
 floor:h'.floor=h.floor
 next:h.next≤h'.next
 vE:∀i,i<h.next→i≠a→i≠b→h'.get i=h.get i
theorem JN.refl (h:H) (a b:Nat):JN h h a b:=⟨rfl,uv _,fun _ _ _ _=>rfl⟩
theorem JN.trans {x y z:H} {a b:Nat} (p:JN x y a b) (q:JN y z a b):JN x z a b:=⟨q.floor.trans p.floor,uP p.next q.next,fun i h1 h2 h3=>(q.vE i (Nat.lt_of_lt_of_le h1 p.next) h2 h3).trans (p.vE i h1 h2 h3)⟩
theorem Af {l:List Int} {i:Nat} (h:i<l.length):(ints l)[i]?=some (.int .i64 (l.getD i 0)):=sf (by rw[QF,QH h];rfl)
theorem BK:∀(ts:List Tok) (A:List Int),(yF ts A).length=A.length
 |[],A=>rfl
 |t::r,A=>by rw[yF,BK r];split<;>rw[wD]
theorem BM:∀(ts:List Tok) (A:List Int),(zk ts A).length=A.length
 |[],A=>rfl
 | t :: r, A => by
   rw[zk,BM r]
   split
   · rfl
   · rw[wD]
theorem BL:∀(ts:List Tok) (A:List Int) (n:Int),0≤n→(∀y∈A,0≤y∧y≤n)→∀y∈yF ts A,0≤y∧y≤n+ts.length
 |[],A,n,hn,h=>by simpa [yF]using h
 | t :: r, A, n, hn, h => by
   intro y hy
   rw[yF]at hy
   have:=BL r _ (n+1) (by omega) (by split<;>exact xX h hn) y hy
   simp only[QG];omega
theorem BN:∀(ts:List Tok) (A:List Int) (n:Int),0≤n→(∀y∈A,0≤y∧y≤n)→∀y∈zk ts A,0≤y∧y≤n+ts.length
 |[],A,n,hn,h=>by simpa [zk]using h
 | t :: r, A, n, hn, h => by
   intro y hy
   rw[zk]at hy
   have:=BN r _ (n+1) (by omega) (by
    split
    · intro z hz;have:=h z hz;omega
    · exact xX h hn) y hy
   simp only[QG];omega
def wB:List Int→List Int→List Int
 |[],C=>C
 |d::r,C=>wB r (wq C d.toNat)
theorem z4:∀(ds C:List Int),(wB ds C).length=C.length
 |[],C=>rfl
 |d::r,C=>by rw[wB,z4 r,wD]
theorem z5:∀(ds A:List Int) (n:Int),0≤n→(∀y∈A,0≤y∧y≤n)→∀y∈wB ds A,0≤y∧y≤n+ds.length
 |[],A,n,hn,h=>by simpa [wB]using h
 | t :: r, A, n, hn, h => by
   intro y hy
   rw[wB]at hy
   have:=z5 r _ (n+1) (by omega) (xX h hn) y hy
   simp only[QG];omega
def yB (R:List Int):List Nat:=R.flatMap fun y=>vj y.toNat 3
theorem yT:∀R:List Int,(yB R).length=3* R.length
 |[]=>rfl
 | y :: R => by
   have:=yT R
   unfold yB at *
   rw[QM,uR,this];simp [vj,vt];omega
def xP (E:List (Int×Int)) (D:List Int):List Nat:=D.flatMap fun y=>u1 E y.toNat
theorem BE {E:List (Int×Int)}:∀{D:List Int},(∀y∈D,zU E y.toNat)→(xP E D).length≤15* D.length
 |[],_=>by simp [xP]
 | y :: D, h => by
   have:=BE (E:=E) (D:=D) fun z hz=>h z (by simp [hz])
   obtain⟨n,v,_,q1,q2,q3,q4⟩:=(h y (by simp)).bits
   unfold xP at *
   rw[QM,uR,q4,vP,QG];omega
theorem v5 (l:List Int) (k:Nat):∀n,k≤vu l k n∧vu l k n≤max k n
 |0=>⟨uv _,by rw[vu];omega⟩
 | n + 1 => by
   rw[vu]
   have:=v5 l k n
   split
   · omega
   · split
     · omega
     · omega
theorem AN:∀(K:Nat) (S W O:List Int),(xL S K W O).length=O.length
 |0,S,W,O=>by rw[xL,vV]
 |K+1,S,W,O=>by rw[xL,AN K,vV]
theorem wQ (C:List Int) (K:Nat):(vL C K).length=C.length:=by unfold vL;rw[AN];simp
theorem Hg (h:H) (l:List Int) {k:Nat} (hk:k≤l.length):Rd h (.aU false (ints l) 0 k 1) (ints (l.take k)):=by
 refine⟨?_,by intro s e;cases e⟩
 have:(ints (l.take k)).length=k:=by rw[pf,Q6];omega
 rw[this]
 simp [aR,ints,hk,List.map_take]
def dA (ts:List Tok):List Int:=yF ts ((List.replicate 286 0).set 256 1)
def dB (ts:List Tok):List Int:=zk ts (List.replicate 30 0)
def xg (l:List Int) (k:Nat):List Int:=l.take (vu l k l.length)
theorem Aa (l:List Int) {k:Nat} (h:k≤l.length):(xg l k).length=vu l k l.length:=by
 have:=v5 l k l.length
 unfold xg;rw[Q6];omega
def vp (ts:List Tok) (la lb Lc:List Int):List Nat:=
 let all:=la++lb
 let row:=ve.map (fun o=>Lc.getD o.toNat 0)
 let k:=vu row 4 19
 vj 5 3++(vj (la.length-257) 5++(vj (lb.length-1) 5++(vj (k-4) 4++(yB (row.take k)++(xP (uU Lc) all++(vO (uU la) (uU lb) ts++u1 (uU la) 256))))))
structure zV (ts:List Tok) (KA KB KC:Nat) (la lb Lc:List Int):Prop where
 zC:ym ts=true
 n:ts.length≤300
 tok:∀t∈ts,xe t
 ra:wo 15 KA (v8 (dA ts))
 rb:wo 15 KB (v8 (dB ts))
 ea:la=xg (vL (dA ts) KA) 257
 eb:lb=xg (vL (dB ts) KB) 1
 all:∀y∈la++lb,0≤y∧y<19
 rc:wo 7 KC (v8 (wB (la++lb) (List.replicate 19 0)))
 ec:Lc=vL (wB (la++lb) (List.replicate 19 0)) KC
 row:∀y∈Lc,0≤y∧y<8
 ca:vh la=0∨vh la=302
 cb:vh lb=0∨vh lb=302
 cc:vh Lc=0∨vh Lc=302
 xZ:∀y∈la++lb,zU (uU Lc) y.toNat
 Kf:∀t∈ts,G7 (uU la) (uU lb) t
 Be:zU (uU la) 256
theorem yl (l:List Int):(uU l).length=l.length:=by simp [uU]
theorem yS (h:H) (l:List Int):xH 2 h (yH l) (uU l).length ((uU l).flatMap v9):=by
 have:=Gu (n:=2) (k:=l.length) (h:=h) (cs:=(uU l).flatMap v9) (by rw[AF ya,yl])
 rw[yl];exact this
theorem zN (h:H) (l:List Int):Rd h (yD 1 l.length (ints l)) (ints l):=by
 have:=Gu (n:=1) (k:=l.length) (h:=h) (cs:=ints l) (by rw[pf];omega)
 exact⟨by have:=this.1;rw[pf];exact this,this.2.2⟩
theorem Ck {C:List Int} (h:2≤C.length):(vS C).length≤C.length:=Fx h (vW 0 C)
theorem KI (c:Int):∀k:Nat,c* 2^k<3^k→0≤c→∀m:Nat,c* 2^(k+m)<3^(k+m)
 |k,h,hc,0=>h
 | k, h, hc, m + 1 => by
   have ih:=KI c k h hc m
   rw[←uu,Int.pow_succ,Int.pow_succ,←Int.mul_assoc]
   have p:(0:Int)≤c* 2^(k+m):=Int.mul_nonneg hc (Int.pow_nonneg (by omega))
   omega
theorem Am:∀(ds:List Int) (a m:Int),(∀d∈ds,d≤m)→a≤m→zG ds a≤m
 |[],a,m,_,h=>h
 | d :: ds, a, m, hd, h => by
   rw[zG]
   refine Am ds _ m (fun x hx=>hd x (by simp [hx])) ?_
   have:=hd d (by simp)
   unfold Co;split<;>omega
theorem BB:∀(ds:List Int) (a:Int),a≤zG ds a∧∀d∈ds,d≤zG ds a
 |[],a=>⟨Rg _,by simp⟩
 | d :: ds, a => by
   have⟨h1,h2⟩:=BB ds (Co a d)
   have:a≤Co a d∧d≤Co a d:=by unfold Co;split<;>omega
   rw[zG]
   refine⟨by omega,fun x hx=> ?_⟩
   rcases uO.1 hx with q|q
   · subst q;omega
   · exact h2 x q
theorem Fj:∀ws:List Int,(∀y∈ws,y=1)→ws.sum=ws.length
 |[],_=>rfl
 | y :: ws, h => by
   have:=Fj ws fun z hz=>h z (by simp [hz])
   have:=h y (by simp)
   rw[Q4,QG];omega
theorem Eg:∀ws:List Int,(∀y∈ws,1≤y)→(ws.length:Int)≤ws.sum
 |[],_=>by simp
 | y :: ws, h => by
   have:=Eg ws fun z hz=>h z (by simp [hz])
   have:=h y (by simp)
   rw[Q4,QG];omega
theorem AJ:∀ws:List Int,(∀y∈ws,1≤y)→(vM ws).sum≤ws.sum∧((∃y∈ws,y≠1)→(vM ws).sum<ws.sum)
 |[],_=>⟨Rg _,by simp⟩
 | y :: ws, h => by
   obtain⟨h1,h2⟩:=AJ ws fun z hz=>h z (by simp [hz])
   have hy:=h y (by simp)
   have e:(vM (y::ws)).sum=xJ y+(vM ws).sum:=by simp [vM]
   rw[e,Q4]
   have a:xJ y≤y:=by unfold xJ;omega
   refine⟨by omega,fun ⟨z,hz,hz1⟩=> ?_⟩
   rcases uO.1 hz with q|q
   · subst q
     have:xJ z<z:=by unfold xJ;omega
     omega
   · have:=h2 ⟨z,q,hz1⟩;omega
theorem Dd {ws:List Int} (h:∀y∈ws,1≤y):∀y∈vM ws,1≤y:=by
 intro y hy
 obtain⟨z,hz,rfl⟩:=QP.1 hy
 have:=h z hz
 unfold xJ;omega
theorem Cq {ws:List Int} (h1:1≤ws.length) (ho:∀y∈ws,y=1) {c:Int} {k:Nat} (hc:(ws.length:Int)≤c) (hk:c* 2^(k+1)<3^(k+1)) (hs:ws.length≤288):∀d∈u6 ws,d≤k:=by
 intro d hd
 have sm:=Fj ws ho
 obtain⟨_,_,_,_,hb,_⟩:=M9 ws true h1 (fun y hy=>by have:=ho y hy;omega) (by omega) (fun _=>ho)
 have b:=hb rfl d hd
 apply Q0
 intro q
 obtain⟨m,hm⟩:∃m:Nat,d.toNat=k+1+m:=⟨d.toNat-(k+1),by omega⟩
 rw[hm]at b
 have:=KI c (k+1) hk (by omega) m
 have p:(0:Int)<2^(k+1+m):=Int.pow_pos (by omega)
 have:ws.sum* 2^(k+1+m)≤c* 2^(k+1+m):=Int.mul_le_mul_of_nonneg_right (by omega) (by omega)
 omega
theorem Fi {ws:List Int} (hl:ws.length≤288) (pos:∀y∈ws,1≤y) (hs:ws.sum<1000000000000000):G6 ws:=by
 by_cases e:ws=[]
 · exact .inl e
 · have h1:1≤ws.length:=List.length_pos_iff.2 e
   obtain⟨a,b,c,_⟩:=M9 ws false h1 pos hs (fun h=>by cases h)
   exact .inr ⟨h1,hl,a,b,c⟩
theorem Ib {most : Int} (hm : 0 ≤ most) : ∀ (f : Nat) (ws : List Int), ws.sum ≤ f → (∀ y ∈ ws, 1 ≤ y) → ws.sum < 1000000000000000 → ((13 ≤ most ∧ ws.length ≤ 288) ∨ (7 ≤ most ∧ ws.length ≤ 19)) → ∃ K, wo most K ws := by
 intro f
 induction f with
 | zero =>
   intro ws hf pos hs hl
   have:=Eg ws pos
   have:ws=[]:=List.length_eq_zero_iff.1 (by omega)
   subst this
   exact⟨0,.last (.inl rfl) hm⟩
 | succ f ih =>
   intro ws hf pos hs hl
   have o:=Fi (by omega) pos hs
   by_cases c:zG (u6 ws) 0≤most
   · exact⟨0,.last o c⟩
   · have hne:ws≠[]:=fun e=>by subst e;exact c hm
     have h1:1≤ws.length:=List.length_pos_iff.2 hne
     have ho:∃y∈ws,y≠1:=by
      apply Q0
      intro q
      have all1:∀y∈ws,y=1:=fun y hy=>Q0 fun r=>q ⟨y,hy,r⟩
      rcases hl with ⟨a,b⟩|⟨a,b⟩
      · have:=Cq (c:=288) (k:=13) h1 all1 (by omega) (by decide) (by omega)
        exact c (Am _ _ _ (fun d hd=>by have:=this d hd;omega) hm)
      · have:=Cq (c:=19) (k:=7) h1 all1 (by omega) (by decide) (by omega)
        exact c (Am _ _ _ (fun d hd=>by have:=this d hd;omega) hm)
     have hh:=(AJ ws pos).2 ho
     obtain⟨K,r⟩:=ih (vM ws) (by omega) (Dd pos) (by omega) (by rw[y6];exact hl)
     exact⟨K+1,.more o (by omega) hne r⟩
theorem wc:∀(S D O:List Int) (p:Nat),(∀s∈S,s.toNat≠p)→(vA S D O)[p]?=O[p]?
 |[],D,O,p,h=>by simp [vA]
 |s::S,[],O,p,h=>by simp [vA]
 | s :: S, d :: D, O, p, h => by
   rw[vA,wc S D _ p fun t ht=>h t (by simp [ht]),QU,if_neg (h s (by simp))]
theorem wT:∀(S D O:List Int) (j:Nat) (s d:Int),(S.map Int.toNat).Nodup→S[j]?=some s→D[j]?=some d→s.toNat<O.length→(vA S D O)[s.toNat]?=some d
 |[],D,O,j,s,d,nd,h1,h2,h3=>by simp at h1
 |t::S,[],O,j,s,d,nd,h1,h2,h3=>by simp at h2
 | t :: S, e :: D, O, 0, s, d, nd, h1, h2, h3 => by
   simp at h1 h2
   subst h1;subst h2
   rw[QO,Rk]at nd
   rw[vA,wc S D _ _ fun u hu q=>nd.1 (QP.2 ⟨u,hu,q⟩),QU,if_pos rfl,if_pos h3]
 | t :: S, e :: D, O, j + 1, s, d, nd, h1, h2, h3 => by
   rw[QO,Rk]at nd
   rw[vA]
   exact wT S D _ j s d nd.2 (by simpa using h1) (by simpa using h2) (by rw[Q1];exact h3)
theorem wZ {S D O:List Int} {n:Nat} (hl:D.length=S.length) (nd:(S.map Int.toNat).Nodup) (hO:O.length=n) (hr:∀s∈S,s.toNat<n) (hz:∀p,p<n→(∀s∈S,s.toNat≠p)→O[p]?=some 0):vA S D O=vA S D (List.replicate n 0):=by
 apply List.ext_getElem?
 intro p
 by_cases hp:p<n
 · by_cases c:∃s∈S,s.toNat=p
   · obtain⟨s,hs,rfl⟩:=c
     obtain⟨j,hj,ej⟩:=Rb.1 hs
     have h1:S[j]?=some s:=by rw[QH hj,ej]
     have h2:D[j]?=some (D[j]'(by omega)):=QH (by omega)
     rw[wT S D O j s _ nd h1 h2 (by omega),wT S D _ j s _ nd h1 h2 (by simpa using hp)]
   · have c':∀s∈S,s.toNat≠p:=fun s hs q=>c ⟨s,hs,q⟩
     rw[wc _ _ _ _ c',wc _ _ _ _ c',hz p hp c',Q3,if_pos hp]
 · rw[QT (by rw[vV];omega),QT (by rw[vV];simp;omega)]
theorem Cj {most:Int} {S:List Int} {n:Nat} (nd:(S.map Int.toNat).Nodup) (hr:∀s∈S,s.toNat<n):∀(K:Nat) (W O:List Int),wo most K W→W.length=S.length→(∀y∈W,1≤y)→W.sum<1000000000000000→O.length=n→(∀p,p<n→(∀s∈S,s.toNat≠p)→O[p]?=some 0)→
 ∃W',W'.length=S.length∧(∀y∈W',1≤y)∧W'.sum<1000000000000000∧zG (u6 W') 0≤most∧xL S K W O=vA S (u6 W') (List.replicate n 0)
 | 0, W, O, r, hl, pos, hs, hO, hz => by
   cases r with
   |last o c=>exact⟨W,hl,pos,hs,c,wZ (by rw[vQ,hl]) nd hO hr hz⟩
 | K + 1, W, O, r, hl, pos, hs, hO, hz => by
   cases r with
   | more o c hne r =>
     have:=(AJ W pos).1
     exact Cj nd hr K (vM W) _ r (by rw[y6,hl]) (Dd pos) (by omega) (by rw[vV,hO]) (fun p hp hq=>by rw[wc _ _ _ _ hq];exact hz p hp hq)
theorem Hn (f:Int→Nat):∀(O:List Int) (i:Nat) (d:Int),i<O.length→((O.set i d).map f).sum+f (O.getD i 0)=(O.map f).sum+f d
 |[],i,d,h=>by simp at h
 |x::O,0,d,h=>by simp;omega
 | x :: O, i + 1, d, h => by
   have:=Hn f O i d (by simpa using h)
   simp only[List.set_cons_succ,QO,Q4,List.getD_cons_succ];omega
theorem CD (f:Int→Nat):∀(S D O:List Int),D.length=S.length→(S.map Int.toNat).Nodup→(∀s∈S,s.toNat<O.length)→((vA S D O).map f).sum+(S.map fun s=>f (O.getD s.toNat 0)).sum=(O.map f).sum+(D.map f).sum
 | [], D, O, hl, nd, hr => by
   have:D=[]:=List.length_eq_zero_iff.1 (by simpa using hl)
   subst this
   simp [vA]
 |s::S,[],O,hl,nd,hr=>by simp at hl
 | s :: S, d :: D, O, hl, nd, hr => by
   rw[QO,Rk]at nd
   have ih:=CD f S D (O.set s.toNat d) (by simpa using hl) nd.2 (fun t ht=>by rw[Q1];exact hr t (by simp [ht]))
   have e:(S.map fun t=>f ((O.set s.toNat d).getD t.toNat 0))=S.map fun t=>f (O.getD t.toNat 0):=Q9 fun t ht=>by
    rw[getD_set_ne (fun q=>nd.1 (QP.2 ⟨t,ht,q.symm⟩))]
   rw[e]at ih
   have ss:=Hn f O s.toNat d (hr s (by simp))
   simp only[vA,QO,Q4]
   omega
def f15 (n:Nat) (x:Int):Nat:=if 1≤x∧x≤n then 2^(n-x.toNat)else 0
theorem Dp:∀n,vg [] n=2^n
 |0=>rfl
 | n + 1 => by
   have c:wh [] (n+1)=0:=J2 _
   rw[vg,Dp n,c,Int.pow_succ];omega
theorem Dm (n:Nat):∀(q p:List Int),vg (p++q) n=vg p n-((q.map (f15 n)).sum:Nat)
 |[],p=>by simp
 | x :: q, p => by
   have e:p++x::q=(p++[x])++q:=by simp
   rw[e,Dm n q (p++[x]),Ch,QO,Q4]
   unfold f15
   split
   · push_cast;omega
   · push_cast;omega
theorem y7 (l:List Int) (n:Nat):vg l n=2^n-((l.map (f15 n)).sum:Nat):=by
 have:=Dm n l []
 rwa [List.nil_append,Dp]at this
theorem Dn (l:List Int):∀n,u4 l n+wh l n+vg l n=2^n
 |0=>by simp [u4,vg,wh]
 | n + 1 => by
   have:=Dn l n
   rw[u4,vg,Int.pow_succ];omega
theorem Ge {l:List Int} {n:Nat} (h:0≤vg l n):∀m,m≤n→0≤vg l m:=by
 have:∀k m,m+k=n→0≤vg l m:=by
  intro k
  induction k with
  | zero =>
    intro m hm
    have:m=n:=by omega
    subst this;exact h
  | succ k ih =>
    intro m hm
    have:=ih (m+1) (by omega)
    rw[vg]at this
    omega
 exact fun m hm=>this (n-m) m (by omega)
theorem EM {l:List Int} {s:Nat} (hs:s<l.length) {n:Nat} (hn:1≤n) (e:l.getD s 0=(n:Int)):wh (l.take s) n<wh l n:=by
 have a:=CT hs n hn
 rw[if_pos e]at a
 have:∀(p q:List Int),wh p n≤wh (p++q) n:=fun p q=>by
  unfold wh;split
  · exact uv _
  · rw[List.countP_append];omega
 have b:=this (l.take (s+1)) (l.drop (s+1))
 rw[List.take_append_drop]at b
 omega
theorem Ea {l:List Int} (hl:0≤vg l 15) (hr:∀y∈l,0≤y∧y<16) {s:Nat} (hs:s<l.length) (h1:1≤l.getD s 0):zU (uU l) s:=by
 have hm:l.getD s 0∈l:=by rw[QF,QH hs];exact QW hs
 have r:=hr _ hm
 obtain⟨n,hn⟩:=QN r.1
 have n1:1≤n:=by omega
 have lt:=EM hs n1 hn
 have f:=Dn l n
 have m:=Ge hl n (by omega)
 have fb:=(show 0≤u4 l n from by
  have:∀n,0≤u4 l n:=by
   intro n
   induction n with
   |zero=>simp [u4]
   |succ n ih=>rw[u4];omega
  exact this n)
 have tn:((n:Nat):Int).toNat=n:=by omega
 refine⟨n,(u4 l n+wh (l.take s) n).toNat, ?_,n1,by omega, ?_⟩
 · unfold uU
   rw[uG,Q8 hs,QK]
   unfold xU
   rw[if_pos h1,hn,tn]
   congr 2
   omega
 · have e2:((2^n:Nat):Int)=(2:Int)^n:=by push_cast;rfl
   omega
theorem AZ:∀(C:List Int) (i:Nat),((uZ i C).map Int.toNat).Nodup
 |[],i=>by simp [uZ]
 | c :: r, i => by
   have ih:=AZ r (i+1)
   rw[uZ]
   split
   · rw[QO,Rk]
     refine⟨fun h=> ?_,ih⟩
     obtain⟨s,hs,e⟩:=QP.1 h
     have:=wv (i+1) r s hs
     omega
   · exact ih
theorem zS:∀(C:List Int) (i p:Nat),0<C.getD p 0→((i+p:Nat):Int)∈uZ i C
 |[],i,p,h=>by simp at h
 | c :: r, i, 0, h => by
   rw[uZ,if_pos (by simpa using h)]
   simp
 | c :: r, i, p + 1, h => by
   have ih:=zS r (i+1) p (by simpa using h)
   have e:i+1+p=i+(p+1):=by omega
   rw[e]at ih
   rw[uZ]
   split
   · exact Rc _ ih
   · exact ih
theorem CJ:∀(C:List Int) (i:Nat),(∀y∈C,¬0<y)→uZ i C=[]
 |[],i,h=>rfl
 | c :: r, i, h => by
   rw[uZ,if_neg (h c (by simp))]
   exact CJ r (i+1) fun y hy=>h y (by simp [hy])
theorem Fy {S:List Int} {s:Int} (h:s∈S):s∈At S:=by
 unfold At
 split
 · rename_i h1
   match S,h1 with
   | [t], _ =>
     simp at h;subst h
     split<;>simp
 · exact h
theorem Kg {S : List Int} (h : (S.map Int.toNat).Nodup) (hp : ∀ s ∈ S, 0 ≤ s) : ((At S).map Int.toNat).Nodup := by
 unfold At
 split
 · rename_i h1
   match S,h1 with
   | [t], _ =>
     have:=hp t (by simp)
     split
     · rename_i c
       simp at c ⊢
       omega
     · rename_i c
       simp at c ⊢
       omega
 · exact h
theorem Jd {S:List Int} (h:S≠[]):2≤(At S).length:=by
 unfold At
 split
 · rename_i h1
   split
   · simp
   · simp [h1]
 · rename_i h1
   have:=List.length_pos_iff.2 h
   omega
theorem Je {S W:List Int} (hl:W.length=S.length) (h:∀y∈W,1≤y):∀y∈Gn S W,1≤y:=by
 intro s hs
 unfold Gn at hs
 split at hs
 · rename_i h1
   rw[←hl]at h1
   match W,h1 with
   | [t], _ =>
     have:=h t (by simp)
     split at hs
     · simp at hs;omega
     · simp at hs;omega
 · exact h s hs
theorem FM {α:Type}:∀l:List α,(l.map fun _=>(0:Nat)).sum=0
 |[]=>rfl
 |x::l=>by rw[QO,Q4,FM l]
theorem HU {C:List Int} (h:∀y∈C,¬0<y):vS C=[]:=by
 unfold vS;rw[CJ C 0 h];rfl
theorem zP:∀(l:List Int) (b:Int),(∀y∈l,y≤b)→l.sum≤b* l.length
 |[],b,_=>by simp
 | y :: l, b, h => by
   have:=zP l b fun z hz=>h z (by simp [hz])
   have hy:=h y (by simp)
   rw[Q4,QG]
   have e:b* ((l.length+1:Nat):Int)=b* l.length+b:=by rw[Int.natCast_add,Int.mul_add];simp
   omega
theorem Fe {C : List Int} (hC : ∀ y ∈ C, 0 ≤ y ∧ y ≤ 2147483647) (h2 : 2 ≤ C.length) (hl : C.length ≤ 288) : (∀ y ∈ v8 C, 1 ≤ y) ∧ (v8 C).sum < 1000000000000000 := by
 have pos:∀y∈v8 C,1≤y:=Je (vw 0 C).symm fun y hy=>by have:=(xq C y hy).2;omega
 refine⟨pos, ?_⟩
 have up:∀y∈v8 C,y≤2147483647:=by
  intro y hy
  have w:∀z∈u0 C,z≤2147483647:=fun z hz=>(hC z (xq C z hz).1).2
  unfold v8 Gn at hy
  split at hy
  · rename_i h1
    rw[vw]at h1
    match hW:u0 C,h1 with
    | [t], _ =>
      rw[hW]at w hy
      have:=w t (by simp)
      split at hy
      · simp at hy;omega
      · simp at hy;omega
  · exact w y hy
 have:=zP (v8 C) 2147483647 up
 have l1:(v8 C).length=(vS C).length:=Gf C
 have l2:=Ck h2
 omega
theorem yM {C:List Int} {most:Int} (hC:∀y∈C,0≤y∧y≤2147483647) (h2:2≤C.length) (hm:0≤most) (hl:(13≤most∧C.length≤288)∨(7≤most∧C.length≤19)):∃K,wo most K (v8 C):=by
 obtain⟨a,b⟩:=Fe hC h2 (by omega)
 have l1:(v8 C).length=(vS C).length:=Gf C
 have l2:=Ck h2
 exact Ib hm (v8 C).sum.toNat (v8 C) (by have:=Eg _ a;omega) a b (by omega)
theorem xm {C : List Int} {most : Int} {K : Nat} (hC : ∀ y ∈ C, 0 ≤ y ∧ y ≤ 2147483647) (h2 : 2 ≤ C.length) (hl : C.length ≤ 288) (hm : 0 ≤ most ∧ most ≤ 15) (r : wo most K (v8 C)) :
 (vL C K).length=C.length∧(∀y∈vL C K,0≤y∧y≤most)∧(∀p,0<C.getD p 0→1≤(vL C K).getD p 0)∧((∃y∈C,0<y)→vg (vL C K) 15=0)∧((∀y∈C,¬0<y)→vL C K=List.replicate C.length 0):=by
 obtain⟨a,b⟩:=Fe hC h2 hl
 have nd:((vS C).map Int.toNat).Nodup:=Kg (AZ C 0) fun s hs=>by have:=wv 0 C s hs;omega
 have rg:∀s∈vS C,0≤s∧s<C.length:=Jc h2 fun s hs=>by have:=wv 0 C s hs;omega
 have rg':∀s∈vS C,s.toNat<C.length:=fun s hs=>by have:=rg s hs;omega
 obtain⟨W',w1,w2,w3,w4,w5⟩:=Cj nd rg' K (v8 C) (List.replicate C.length 0) r (Gf C) a b (by simp) (fun p hp _=>by rw[Q3,if_pos hp])
 have e:vL C K=vA (vS C) (u6 W') (List.replicate C.length 0):=w5
 have dl:(u6 W').length=(vS C).length:=by rw[vQ,w1]
 have dm:∀d∈u6 W',d≤most:=fun d hd=>by have:=(BB (u6 W') 0).2 d hd;omega
 have o:=Fi (ws:=W') (by have:=Ck h2;omega) w2 w3
 have d0:=ER o
 have gin:∀(j:Nat) (s d:Int),(vS C)[j]?=some s→(u6 W')[j]?=some d→(vL C K)[s.toNat]?=some d:=fun j s d h1 h2=>by
  rw[e];exact wT _ _ _ j s d nd h1 h2 (by simpa using rg' s (uz h1))
 have gout:∀p:Nat,(∀s∈vS C,s.toNat≠p)→(vL C K)[p]?=(List.replicate C.length (0:Int))[p]?:=fun p hp=>by rw[e,wc _ _ _ _ hp]
 have hu:vS C≠[]→2≤(vS C).length:=fun hne=>by
  refine Jd fun q=>hne ?_
  unfold vS;rw[q];rfl
 have h1w:vS C≠[]→_:=fun hne=>M9 W' false (by have:=hu hne;omega) w2 w3 (fun h=>by cases h)
 refine⟨wQ C K, ?_, ?_, ?_, ?_⟩
 · intro y hy
   obtain⟨p,hp⟩:=uJ.1 hy
   by_cases c:∃s∈vS C,s.toNat=p
   · obtain⟨s,hs,rfl⟩:=c
     obtain⟨j,hj⟩:=uJ.1 hs
     have jl:=(um.1 hj).1
     have hd:(u6 W')[j]?=some ((u6 W')[j]'(by omega)):=QH (by omega)
     rw[gin j s _ hj hd]at hp
     obtain rfl:=ud hp
     have m:=QW (l:=u6 W') (n:=j) (by omega)
     exact⟨(d0 _ m).1,dm _ m⟩
   · rw[gout p fun s hs q=>c ⟨s,hs,q⟩,Q3]at hp
     split at hp
     · obtain rfl:=ud hp;omega
     · cases hp
 · intro p hp
   have sm:=zS C 0 p hp
   rw[uC]at sm
   have hs:(p:Int)∈vS C:=Fy sm
   obtain⟨j,hj⟩:=uJ.1 hs
   have jl:=(um.1 hj).1
   have hd:(u6 W')[j]?=some ((u6 W')[j]'(by omega)):=QH (by omega)
   have g:=gin j _ _ hj hd
   have tp:((p:Nat):Int).toNat=p:=by omega
   rw[tp]at g
   rw[QF,g]
   have hne:vS C≠[]:=fun q=>by rw[q]at hs;simp at hs
   exact(h1w hne).2.2.2.2.2 (by have:=hu hne;omega) _ (QW _)
 · rintro ⟨y,hy,hpos⟩
   obtain⟨p,hp⟩:=uJ.1 hy
   have sm:=zS C 0 p (by rw[QF,hp];exact hpos)
   have hs:((0+p:Nat):Int)∈vS C:=Fy sm
   have hne:vS C≠[]:=fun q=>by rw[q]at hs;simp at hs
   have H:=h1w hne
   have kr:=H.2.2.2.1 15 (fun d hd=>by have:=dm d hd;omega)
   have one:=H.2.2.2.2.2 (by have:=hu hne;omega)
   have ss:=CD (f15 15) (vS C) (u6 W') (List.replicate C.length 0) dl nd (fun s hs=>by simpa using rg' s hs)
   rw[←e]at ss
   have z1:((vS C).map fun s=>f15 15 ((List.replicate C.length (0:Int)).getD s.toNat 0)).sum=0:=by
    have:(vS C).map (fun s=>f15 15 ((List.replicate C.length (0:Int)).getD s.toNat 0))=(vS C).map fun _=>0:=Q9 fun s hs=>by
     rw[zc (rg' s hs)];rfl
    rw[this,FM]
   have z2:((List.replicate C.length (0:Int)).map (f15 15)).sum=0:=by
    rw[List.map_replicate]
    have:f15 15 0=0:=rfl
    rw[this];simp
   have z3:(u6 W').map (f15 15)=(u6 W').map fun d=>2^(15-d.toNat):=Q9 fun d hd=>by
    unfold f15
    rw[if_pos ⟨one d hd,by have:=dm d hd;omega⟩]
   rw[z1,z2,z3,kr]at ss
   rw[y7,show((vL C K).map (f15 15)).sum=2^15 by omega]
   rfl
 · intro h
   rw[e,HU h]
   simp [vA]
theorem xF (l : List Int) (k : Nat) : ∀ n p, vu l k n ≤ p → p < n → ¬ 0 < l.getD p 0
 |0,p,h1,h2=>by omega
 | n + 1, p, h1, h2 => by
   rw[vu]at h1
   split at h1
   · omega
   · split at h1
     · omega
     · by_cases e:p=n
       · subst e;assumption
       · exact xF l k n p h1 (by omega)
theorem Bx {l : List Int} (hr : ∀ y ∈ l, 0 ≤ y) (k n : Nat) : vg (xg l k) n = vg l n := by
 have e:l=xg l k++l.drop (vu l k l.length):=(List.take_append_drop _ _).symm
 have z:((l.drop (vu l k l.length)).map (f15 n)).sum=0:=by
  have:∀q:List Int,(∀y∈q,y=0)→(q.map (f15 n)).sum=0:=by
   intro q
   induction q with
   |nil=>intro _;rfl
   | cons x q ih =>
     intro h
     rw[QO,Q4,ih fun y hy=>h y (by simp [hy]),h x (by simp)]
     unfold f15;simp
  refine this _ fun y hy=> ?_
  obtain⟨j,hj⟩:=uJ.1 hy
  rw[uI]at hj
  have hl:=(um.1 hj).1
  have:=xF l k l.length (vu l k l.length+j) (by omega) hl
  rw[QF,hj]at this
  have:=hr y (List.mem_of_mem_drop hy)
  simp at *
  omega
 rw[y7,y7]
 have:(l.map (f15 n)).sum=((xg l k).map (f15 n)).sum:=by
  conv=>lhs;rw[e]
  rw[List.map_append,List.sum_append,z,Nat.add_zero]
 rw[this]
theorem J4 {l:List Int} (k:Nat) {p:Nat} (h:0<l.getD p 0):p<(xg l k).length∧(xg l k).getD p 0=l.getD p 0:=by
 have hp:p<l.length:=by
  apply Q0
  intro c
  rw[QF,QT (by omega)]at h
  simp at h
 have:p<vu l k l.length:=by
  apply Q0
  intro c
  exact xF l k l.length p (by omega) hp h
 unfold xg
 refine⟨by rw[Q6];omega, ?_⟩
 rw[QF,uQ,if_pos this,←QF]
theorem wU {l:List Int} (h1:1≤l.length) (h2:l.length≤288) (hr:∀y∈l,0≤y∧y<16) (h:0≤vg l 15):vh l=if vg l 15=0 then 0 else 302:=by
 have hm:zH l=true:=by
  unfold zH
  have:(ints l).any DS=false:=by
   rw[List.any_eq_false]
   intro x hx
   obtain⟨y,hy,rfl⟩:=QP.1 hx
   have:=hr y hy
   simp [DS,I];omega
  rw[this];simp;omega
 unfold vh
 rw[if_neg (by rw[hm];simp),if_neg (by omega)]
 split
 · rw[if_neg (by omega)]
 · rw[if_pos (by omega)]
theorem FH (s:ByteArray) (i j:Nat):∀f k,(∀m,m<k→wO s (i+m)=wO s (j+m))→∀m,m<xD s i j f k→wO s (i+m)=wO s (j+m)
 |0,k,h=>by simpa [xD]using h
 | f + 1, k, h => by
   unfold xD
   split
   · rename_i q
     refine FH s i j f (k+1) fun m hm=> ?_
     by_cases e:m=k
     · subst e;exact q.2.2
     · exact h m (by omega)
   · exact h
theorem zq (s:ByteArray) (i:Nat) (hi:i≤s.size):∀(n:Nat) (b:Nat×Nat),n≤i→(b.1=0∨(b.1≤258∧1≤b.2∧b.2≤i∧i+b.1≤s.size∧∀m,m<b.1→wO s (i+m)=wO s (i-b.2+m)))→
 ((vC s i n b).1=0∨((vC s i n b).1≤258∧1≤(vC s i n b).2∧(vC s i n b).2≤i∧i+(vC s i n b).1≤s.size∧∀m,m<(vC s i n b).1→wO s (i+m)=wO s (i-(vC s i n b).2+m)))
 |0,b,hn,h=>h
 | n + 1, b, hn, h => by
   unfold vC
   refine zq s i hi n _ (by omega) ?_
   split
   · right
     refine⟨Hi s i n,by show 1≤i-n;omega,by show i-n≤i;omega,DE s i n hi,fun m hm=> ?_⟩
     have:=FH s i n 258 0 (fun m hm=>by omega) m hm
     have e:i-(i-n)=n:=by omega
     show wO s (i+m)=wO s (i-(i-n)+m)
     rw[e];exact this
   · exact h
def preB (s:ByteArray) (i:Nat):List Nat:=(List.range i).map (wO s)
theorem wK (s:ByteArray) (i:Nat):(preB s i).length=i:=by simp [preB]
theorem y9 (s:ByteArray) (i:Nat):preB s (i+1)=preB s i++[wO s i]:=by simp [preB,List.range_succ]
theorem FA (s:ByteArray) {i j:Nat} (h:j<i):(preB s i).getD j 0=wO s j:=by
 rw[QF,preB,uG,Q8 h];rfl
theorem GM (s:ByteArray) {d:Nat} (hd:1≤d):∀(n i:Nat),d≤i→(∀m,m<n→wO s (i+m)=wO s (i-d+m))→HJ d n (preB s i)=preB s (i+n)
 |0,i,h,_=>rfl
 | n + 1, i, h, hm => by
   have e0:=hm 0 (by omega)
   simp only[Nat.add_zero]at e0
   rw[HJ,wK,FA s (by omega),←e0,←y9,GM s hd n (i+1) (by omega) fun m h2=>by
    have:=hm (m+1) (by omega)
    have a1:i+(m+1)=i+1+m:=by omega
    have a2:i-d+(m+1)=i+1-d+m:=by omega
    rw[a1,a2]at this;exact this]
   congr 1;omega
theorem Gz (s:ByteArray) {i:Nat} (hi:i<s.size):((vZ s i).1.len=0∧(vZ s i).1.lit=wO s i∧(vZ s i).1.vD=0∧(vZ s i).2=i+1)∨
 (∃L D:Nat,(vZ s i).1.len=L∧(vZ s i).1.vD=D∧(vZ s i).1.lit=0∧3≤L∧L≤258∧1≤D∧D≤i∧(vZ s i).2=i+L∧i+L≤s.size∧∀m,m<L→wO s (i+m)=wO s (i-D+m)):=by
 unfold vZ
 split
 · exact .inl ⟨rfl,rfl,rfl,rfl⟩
 · rename_i c
   right
   rcases zq s i (by omega) i (0,0) (uv _) (.inl rfl)with h|⟨h1,h2,h3,h4,h5⟩
   · omega
   · exact⟨_,_,rfl,rfl,rfl,by omega,h1,h2,h3,rfl,h4,h5⟩
theorem yf (s : ByteArray) (hs : s.size ≤ 300) : ∀ (f i : Nat), s.size - i ≤ f → i ≤ s.size → (yV s f i).length ≤ s.size - i ∧ (∀ t ∈ yV s f i, xe t) ∧ vk i (yV s f i) = true ∧ wg (yV s f i) (preB s i) = preB s s.size
 | 0, i, hf, hi => by
   have:i=s.size:=by omega
   subst this
   simp [yV,vk,wg]
 | f + 1, i, hf, hi => by
   rw[yV]
   split
   · rename_i c
     have lt:=FV s i
     have le:=FU s i c
     obtain⟨i1,i2,i3,i4⟩:=yf s hs f (vZ s i).2 (by omega) le
     have sp:=Gz s c
     refine⟨by rw[QG];omega, ?_, ?_, ?_⟩
     · intro t ht
       rcases uO.1 ht with q|q
       · subst q
         rcases sp with ⟨a,b,_,_⟩|⟨L,D,a,b,_,c1,c2,c3,c4,_,_,_⟩
         · have:=zt s i
           exact .inl ⟨a,by omega,by omega⟩
         · exact .inr ⟨by omega,by omega,by omega,by omega⟩
       · exact i2 t q
     · rw [vk]
       rcases sp with ⟨a,b,c0,d⟩|⟨L,D,a,b,c0,c1,c2,c3,c4,d,e,_⟩
       · have hb:=zt s i
         have st:vF (i:Int) (vZ s i).1=some ((i:Int)+1):=by
          unfold vF
          rw[if_pos a,if_neg (by omega)]
         rw[st]
         simp only
         rw[if_neg (by omega)]
         have e:(((vZ s i).2:Nat):Int)=(i:Int)+1:=by omega
         rw[←e];exact i3
       · have st:vF (i:Int) (vZ s i).1=some ((i:Int)+L):=by
          unfold vF
          rw[if_neg (by omega),if_neg (by omega),a]
         rw[st]
         simp only
         rw[if_neg (by omega)]
         have e':(((vZ s i).2:Nat):Int)=(i:Int)+L:=by omega
         rw[←e'];exact i3
     · rw [wg]
       rcases sp with ⟨a,b,c0,d⟩|⟨L,D,a,b,c0,c1,c2,c3,c4,d,e,g⟩
       · have:vx (preB s i) (vZ s i).1=preB s (vZ s i).2:=by
          unfold vx
          rw[if_pos a,b,d,y9];rfl
         rw[this];exact i4
       · have:vx (preB s i) (vZ s i).1=preB s (vZ s i).2:=by
          unfold vx
          rw[if_neg (by omega),a,b,d]
          exact GM s c3 L i c4 g
         rw[this];exact i4
   · have:i=s.size:=by omega
     subst this
     simp [vk,wg]
theorem B3 (s:ByteArray) (hs:s.size≤300):ym (tokens s)=true:=by
 obtain⟨_,_,h3,h4⟩:=yf s hs s.size 0 (by omega) (by omega)
 unfold ym xh tokens
 have h3':vk 0 (yV s s.size 0)=true:=h3
 rw[if_pos h3']
 have:wg (yV s s.size 0) []=preB s s.size:=h4
 rw[this]
 simp only[vH,wK]
 simpa using hs
theorem Ca (l:List Int) (i p:Nat):l.getD p 0≤(wq l i).getD p 0:=by
 unfold wq
 by_cases e:i=p
 · subst e
   by_cases h:i<l.length
   · rw[QF (l:=l.set i _),QU,if_pos rfl,if_pos h]
     show l.getD i 0≤l.getD i 0+1
     omega
   · rw[List.set_eq_of_length_le (by omega)];exact Rg _
 · rw[getD_set_ne e];exact Rg _
theorem Ah {l:List Int} {i:Nat} (h:i<l.length):(wq l i).getD i 0=l.getD i 0+1:=by
 unfold wq
 rw[QF (l:=l.set i _),QU,if_pos rfl,if_pos h];rfl
theorem zZ:∀(ts:List Tok) (A:List Int) (p:Nat),A.getD p 0≤(yF ts A).getD p 0
 |[],A,p=>Rg _
 | t :: r, A, p => by
   rw[yF]
   refine Int.le_trans ?_ (zZ r _ p)
   split<;>exact Ca _ _ _
theorem EJ:∀(ts:List Tok) (A:List Int) (p:Nat),A.getD p 0≤(zk ts A).getD p 0
 |[],A,p=>Rg _
 | t :: r, A, p => by
   rw[zk]
   refine Int.le_trans ?_ (EJ r _ p)
   split
   · exact Rg _
   · exact Ca _ _ _
theorem EL:∀(ts:List Int) (A:List Int) (p:Nat),A.getD p 0≤(wB ts A).getD p 0
 |[],A,p=>Rg _
 | t :: r, A, p => by
   rw[wB]
   exact Int.le_trans (Ca _ _ _) (EL r _ p)
theorem Ap {A:List Int} (h:∀y∈A,0≤y) (p:Nat):0≤A.getD p 0:=by
 rw[QF]
 cases e:A[p]? with
 |none=>simp
 |some y=>exact h y (uz e)
theorem Gk {A:List Int} (h:∀y∈A,0≤y) (i:Nat):∀y∈wq A i,0≤y:=by
 intro y hy
 rcases Ra hy with q|q
 · exact h y q
 · have:=Ap h i;omega
theorem EI : ∀ (ts : List Tok) (A : List Int), (∀ y ∈ A, 0 ≤ y) → A.length = 286 → ∀ t ∈ ts, xe t → (t.len = 0 → 1 ≤ (yF ts A).getD t.lit.toNat 0) ∧ (t.len ≠ 0 → 1 ≤ (yF ts A).getD (wH t.len.toNat) 0)
 |[],A,_,_,t,h,_=>by simp at h
 | u :: r, A, hA, hl, t, h, o => by
   rw[yF]
   rcases uO.1 h with q|q
   · subst q
     refine⟨fun h0=> ?_,fun h0=> ?_⟩
     · rw[if_pos h0]
       refine Int.le_trans ?_ (zZ r _ _)
       rcases o with ⟨_,b,c⟩|⟨a,_⟩
       · rw[Ah (by omega)]
         have:=Ap hA t.lit.toNat;omega
       · omega
     · rw[if_neg h0]
       refine Int.le_trans ?_ (zZ r _ _)
       rcases o with ⟨a,_⟩|⟨a,b,_⟩
       · exact absurd a h0
       · have:=xp (k:=t.len.toNat) (by omega) (by omega)
         rw[Ah (by omega)]
         have:=Ap hA (wH t.len.toNat);omega
   · exact EI r _ (by split<;>exact Gk hA _) (by split<;>rw[wD,hl]) t q o
theorem EK : ∀ (ts : List Tok) (A : List Int), (∀ y ∈ A, 0 ≤ y) → A.length = 30 → ∀ t ∈ ts, xe t → t.len ≠ 0 → 1 ≤ (zk ts A).getD (w9 t.vD.toNat) 0
 |[],A,_,_,t,h,_,_=>by simp at h
 | u :: r, A, hA, hl, t, h, o, h0 => by
   rw[zk]
   rcases uO.1 h with q|q
   · subst q
     rw[if_neg h0]
     refine Int.le_trans ?_ (EJ r _ _)
     rcases o with ⟨a,_⟩|⟨a,b,c,d⟩
     · exact absurd a h0
     · have:=xk (k:=t.vD.toNat) (by omega) (by omega)
       rw[Ah (by omega)]
       have:=Ap hA (w9 t.vD.toNat);omega
   · refine EK r _ ?_ ?_ t q o h0
     · split
       · exact hA
       · exact Gk hA _
     · split
       · exact hl
       · rw[wD,hl]
theorem BQ:∀(ds:List Int) (A:List Int),(∀y∈A,0≤y)→A.length=19→∀y∈ds,0≤y∧y<19→1≤(wB ds A).getD y.toNat 0
 |[],A,_,_,t,h,_=>by simp at h
 | u :: r, A, hA, hl, t, h, o => by
   rw[wB]
   rcases uO.1 h with q|q
   · subst q
     refine Int.le_trans ?_ (EL r _ _)
     rw[Ah (by omega)]
     have:=Ap hA t.toNat;omega
   · exact BQ r _ (Gk hA _) (by rw[wD,hl]) t q o
theorem yx (n:Nat):∀y∈List.replicate n (0:Int),0≤y∧y≤0:=fun y hy=>by have:=Q5 hy;omega
theorem EO (ts:List Tok) (hn:ts.length≤300):(dA ts).length=286∧(∀y∈dA ts,0≤y∧y≤2147483647)∧1≤(dA ts).getD 256 0:=by
 have z:∀y∈(List.replicate 286 (0:Int)).set 256 1,0≤y∧y≤1:=fun y hy=>by
  rcases Ra hy with q|q
  · have:=Q5 q;omega
  · omega
 refine⟨by unfold dA;rw[BK,Q1,QV],fun y hy=> ?_, ?_⟩
 · have:=BL ts _ 1 (by omega) z y hy;omega
 · have h:((List.replicate 286 (0:Int)).set 256 1).getD 256 0=1:=by decide
   have:=zZ ts ((List.replicate 286 0).set 256 1) 256
   rw[h]at this
   exact this
theorem EP (ts:List Tok) (hn:ts.length≤300):(dB ts).length=30∧(∀y∈dB ts,0≤y∧y≤2147483647):=by
 refine⟨by unfold dB;rw[BM,QV],fun y hy=> ?_⟩
 have:=BN ts _ 0 (by omega) (yx 30) y hy;omega
theorem I8 {ts:List Tok} {la lb:List Int} {t:Tok} (o:xe t) (hA:t.len=0→zU (uU la) t.lit.toNat) (hL:t.len≠0→zU (uU la) (wH t.len.toNat)) (hB:t.len≠0→zU (uU lb) (w9 t.vD.toNat)):G7 (uU la) (uU lb) t:=by
 rcases o with ⟨a,b,c⟩|⟨a,b,c,d⟩
 · exact .inl ⟨a,b,hA a⟩
 · exact .inr ⟨a,b,c,d,hL (by omega),hB (by omega)⟩
theorem BV {C l:List Int} {K k m:Nat} (hC:∀y∈C,0≤y∧y≤2147483647) (h2:2≤C.length) (hl:C.length≤288) (hk:k≤C.length) (hk1:1≤k) (r:wo 15 K (v8 C)) (e:l=xg (vL C K) k):
 (k≤l.length∧l.length≤C.length)∧(∀y∈l,0≤y∧y<16)∧(vh l=0∨vh l=302)∧(∀p,0<C.getD p 0→zU (uU l) p)∧0≤vg l 15:=by
 obtain⟨f1,f2,f3,f4,f5⟩:=xm hC h2 hl (by omega) r
 have ug:=v5 (vL C K) k (vL C K).length
 have ll:l.length=vu (vL C K) k (vL C K).length:=by rw[e];exact Aa _ (by omega)
 have hr:∀y∈l,0≤y∧y<16:=fun y hy=>by
  rw[e]at hy
  have:=f2 y (List.mem_of_mem_take hy)
  omega
 have lc:vg l 15=vg (vL C K) 15:=by rw[e];exact Bx (fun y hy=>(f2 y hy).1) k 15
 have l0:0≤vg l 15:=by
  rw[lc]
  by_cases c:∃y∈C,0<y
  · rw[f4 c];omega
  · rw[f5 fun y hy q=>c ⟨y,hy,q⟩]
    rw[y7,List.map_replicate]
    have:f15 15 0=0:=rfl
    rw[this];simp
 have ck:=wU (l:=l) (by omega) (by omega) hr l0
 refine⟨by omega,hr, ?_,fun p hp=> ?_,l0⟩
 · rw[ck];split
   · exact .inl rfl
   · exact .inr rfl
 · have g:=f3 p hp
   obtain⟨c1,c2⟩:=J4 k (show 0<(vL C K).getD p 0 by omega)
   rw[←e]at c1 c2
   exact Ea l0 hr c1 (by omega)
theorem GQ {ts:List Tok} (hn:ts.length≤300) (zC:ym ts=true) (t2:∀t∈ts,xe t):∃KA KB KC la lb Lc,zV ts KA KB KC la lb Lc:=by
 obtain⟨a1,a2,a3⟩:=EO ts hn
 obtain⟨b1,b2⟩:=EP ts hn
 obtain⟨KA,rA⟩:=yM (most:=15) a2 (by omega) (by omega) (.inl (by omega))
 obtain⟨KB,rB⟩:=yM (most:=15) b2 (by omega) (by omega) (.inl (by omega))
 obtain⟨la,ea⟩:∃l,l=xg (vL (dA ts) KA) 257:=⟨_,rfl⟩
 obtain⟨lb,eb⟩:∃l,l=xg (vL (dB ts) KB) 1:=⟨_,rfl⟩
 obtain⟨x1,x2,x3,x4,x5⟩:=BV (m:=0) a2 (by omega) (by omega) (by omega) (by omega) rA ea
 obtain⟨y1,y2,y3,y4,y5⟩:=BV (m:=0) b2 (by omega) (by omega) (by omega) (by omega) rB eb
 have hall:∀y∈la++lb,0≤y∧y<19:=fun y hy=>by
  rcases Q7.1 hy with q|q
  · have:=x2 y q;omega
  · have:=y2 y q;omega
 have c1:(wB (la++lb) (List.replicate 19 0)).length=19:=by rw[z4,QV]
 have c2:∀y∈wB (la++lb) (List.replicate 19 0),0≤y∧y≤2147483647:=fun y hy=>by
  have:=z5 (la++lb) _ 0 (by omega) (yx 19) y hy
  rw[uR]at this
  omega
 obtain⟨KC,rC⟩:=yM (most:=7) c2 (by omega) (by omega) (.inr (by omega))
 obtain⟨f1,f2,f3,f4,f5⟩:=xm c2 (by omega) (by omega) (by omega) rC
 have hit:=BQ (la++lb) (List.replicate 19 0) (fun y hy=>(yx 19 y hy).1) (by rw[QV])
 have ex:∃y∈wB (la++lb) (List.replicate 19 0),0<y:=by
  obtain⟨z,hz⟩:=List.exists_mem_of_ne_nil (la++lb) (fun q=>by
   have:=Rh List.length q
   rw[uR,QI]at this
   omega)
  have h:=hit z hz (hall z hz)
  refine⟨_, ?_,show 0<(wB (la++lb) (List.replicate 19 0)).getD z.toNat 0 by omega⟩
  have zl:z.toNat<(wB (la++lb) (List.replicate 19 0)).length:=by have:=hall z hz;omega
  rw[QF,QH zl]
  exact QW zl
 have l0:=f4 ex
 have r16:∀y∈vL (wB (la++lb) (List.replicate 19 0)) KC,0≤y∧y<16:=fun y hy=>by have:=f2 y hy;omega
 refine⟨KA,KB,KC,la,lb,_,⟨zC,hn,t2,rA,rB,ea,eb,hall,rC,rfl,fun y hy=>by have:=f2 y hy;omega,x3,y3, ?_, ?_, ?_, ?_⟩⟩
 · have:=wU (by omega) (by omega) r16 (by omega)
   rw[this,if_pos l0];exact .inl rfl
 · intro y hy
   have h:=hit y hy (hall y hy)
   have g:=f3 y.toNat (by omega)
   exact Ea (by omega) r16 (by have:=hall y hy;omega) g
 · intro t ht
   have o:=t2 t ht
   have zA:∀y∈(List.replicate 286 (0:Int)).set 256 1,0≤y:=fun y hy=>by
    rcases Ra hy with q|q
    · have:=Q5 q;omega
    · omega
   have hA:=EI ts _ zA (by rw[Q1,QV]) t ht o
   have hB:=EK ts (List.replicate 30 0) (fun y hy=>(yx 30 y hy).1) (by rw[QV]) t ht o
   exact I8 (ts:=ts) o (fun h0=>x4 _ (by have:=hA.1 h0;unfold dA;omega)) (fun h0=>x4 _ (by have:=hA.2 h0;unfold dA;omega)) (fun h0=>y4 _ (by have:=hB h0;unfold dB;omega))
 · exact x4 256 (by omega)
theorem Ma (s:ByteArray) (hs:s.size≤300):∃KA KB KC la lb Lc,zV (tokens s) KA KB KC la lb Lc:=by
 obtain⟨t1,t2,t3,t4⟩:=yf s hs s.size 0 (by omega) (by omega)
 change (tokens s).length≤s.size-0 at t1
 exact GQ (by omega) (B3 s hs) t2
theorem GR {ts:List Tok} {KA KB KC:Nat} {la lb Lc:List Int} (ok:zV ts KA KB KC la lb Lc):17≤(vp ts la lb Lc).length∧(vp ts la lb Lc).length≤30000:=by
 obtain⟨zC,hn,tok,ra,rb,ea,eb,hall,rc,ec,hrow,ca,cb,cc,xZ,Kf,Be⟩:=ok
 have a:=BE xZ
 have b:=A3 Kf
 obtain⟨n,v,_,q1,q2,q3,q4⟩:=Be.bits
 have lA:(dA ts).length=286:=(EO ts hn).1
 have lB:(dB ts).length=30:=(EP ts hn).1
 have l1:la.length≤286:=by rw[ea];unfold xg;rw[Q6,wQ,lA];omega
 have l2:lb.length≤30:=by rw[eb];unfold xg;rw[Q6,wQ,lB];omega
 have c:(u1 (uU la) 256).length≤15:=by rw[q4,vP];exact q2
 rw[uR]at a
 unfold vp
 simp only[uR,vj,vt,yT,Q6,Ri]
 have:ve.length=19:=rfl
 omega
theorem HZ:∀bs:List Nat,(∀b∈bs,b≤1)→JM (vm bs):=by
 have:∀(l:List Nat) (i:Nat) (out:List Nat),(∀b∈l,b≤1)→JM out→JM (wu l i out):=by
  intro l
  induction l with
  |nil=>intro i out _ h;exact h
  |cons x l ih=>intro i out hl h;exact ih (i+1) _ (fun b hb=>hl b (by simp [hb])) (Bf (hl x (by simp)) h)
 exact fun bs h=>this bs 0 [] h fun _ q=>by simp at q
theorem xj (v:Nat):∀m,∀b∈xw v m,b≤1
 |0,b,h=>by simp [xw]at h
 | m + 1, b, h => by
   rw[xw]at h
   rcases uO.1 h with q|q
   · omega
   · exact xj v m b q
theorem wY (v:Nat):∀m i,∀b∈AR v i m,b≤1
 |0,i,b,h=>by simp [AR]at h
 | m + 1, i, b, h => by
   rw[AR]at h
   rcases uO.1 h with q|q
   · omega
   · exact wY v m (i+1) b q
theorem FW (E D:List (Int×Int)) (t:Tok):∀b∈vz E D t,b≤1:=by
 intro b h
 unfold vz u1 vj at h
 split at h
 · exact xj _ _ b h
 · simp only[Q7]at h
   rcases h with h|h|h|h
   · exact xj _ _ b h
   · exact wY _ _ _ b h
   · exact xj _ _ b h
   · exact wY _ _ _ b h
theorem GP (ts:List Tok) (la lb Lc:List Int):∀b∈vp ts la lb Lc,b≤1:=by
 intro b h
 unfold vp at h
 simp only[Q7]at h
 rcases h with h|h|h|h|h|h|h|h
 · exact wY _ _ _ b h
 · exact wY _ _ _ b h
 · exact wY _ _ _ b h
 · exact wY _ _ _ b h
 · obtain⟨y,_,hy⟩:=List.mem_flatMap.1 h
   exact wY _ _ _ b hy
 · obtain⟨y,_,hy⟩:=List.mem_flatMap.1 h
   exact xj _ _ b hy
 · obtain⟨y,_,hy⟩:=List.mem_flatMap.1 h
   exact FW _ _ y b hy
 · exact xj _ _ b h
def zj (t:ByteArray) (p:Nat) (bs:List Nat):Prop:=p+bs.length≤8* t.size∧∀i,i<bs.length→wA t (p+i)=bs.getD i 0
theorem zj.app {t:ByteArray} {p:Nat} {a b:List Nat} (h:zj t p (a++b)):zj t p a∧zj t (p+a.length) b:=by
 obtain⟨h1,h2⟩:=h
 rw[uR]at h1 h2
 refine⟨⟨by omega,fun i hi=> ?_⟩,⟨by omega,fun i hi=> ?_⟩⟩
 · have:=h2 i (by omega)
   rw[this,QF,QF,QQ hi]
 · have:=h2 (a.length+i) (by omega)
   rw[uu,this,QF,QF,QR (by omega),Nat.add_sub_cancel_left]
theorem C6 (l:List Nat) (h:JM l) (i:Nat):(((bytesOf l)[i]?).map (·.toNat)).getD 0=l.getD i 0:=by
 have e:(bytesOf l)[i]?=(l.map UInt8.ofNat)[i]?:=by
  show(l.map UInt8.ofNat).toArray[i]?=_
  simp
 rw[e,uG,QF]
 cases hx:l[i]? with
 |none=>rfl
 | some x =>
   have:=h x (uz hx)
   simp [UInt8.toNat_ofNat_of_lt' this]
theorem Iu {x b k j:Nat} (hb:b≤1) (hx:x<2^k):(x|||b* 2^k)/2^j%2=if j=k then b else x/2^j%2:=by
 rw[←Nat.toNat_testBit,←Nat.toNat_testBit,Nat.testBit_or]
 have hb':b=0∨b=1:=by omega
 rcases hb' with rfl|rfl
 · rw[Nat.zero_mul,Nat.zero_testBit,Bool.or_false]
   split
   · rename_i e;subst e
     rw[Nat.testBit_lt_two_pow hx];rfl
   · rfl
 · rw[Nat.one_mul,Nat.testBit_two_pow]
   split
   · rename_i e;subst e;simp
   · rename_i e
     have:decide (k=j)=false:=by simp;omega
     rw[this,Bool.or_false]
structure Hu (out:List Nat) (bs:List Nat):Prop where
 len:out.length=(bs.length+7)/8
 bit:∀j,j<bs.length→out.getD (j/8) 0/2^(j%8)%2=bs.getD j 0
 top:bs.length%8≠0→out.getD (bs.length/8) 0<2^(bs.length%8)
theorem Hu.step {out bs : List Nat} {b : Nat} (hb : b ≤ 1) (v : Hu out bs) : Hu (vI out bs.length b) (bs ++ [b]) := by
 obtain⟨len,bit,top⟩:=v
 obtain⟨n,hn⟩:∃n,n=bs.length:=⟨_,rfl⟩
 rw[←hn]at len bit top ⊢
 obtain⟨o,ho⟩:∃o,o=if n%8=0 then out++[0]else out:=⟨_,rfl⟩
 have es:vI out n b=o.set (n/8) (o.getD (n/8) 0|||b* 2^(n%8)):=by rw[ho];rfl
 have ol:n/8<o.length:=by
  rw[ho];split
  · rw[uR,len];simp;omega
  · rw[len];omega
 have og:∀j,j<n→o.getD (j/8) 0=out.getD (j/8) 0:=fun j hj=>by
  rw[ho];split
  · rw[QF,QQ (by omega),←QF]
  · rfl
 have ox:o.getD (n/8) 0<2^(n%8):=by
  by_cases c:n%8=0
  · rw[ho,if_pos c,QF,QR (by omega),c]
    have:n/8-out.length=0:=by omega
    rw[this];simp
  · rw[ho,if_neg c];exact top c
 have gn:∀m,(vI out n b).getD m 0=if m=n/8 then o.getD (n/8) 0|||b* 2^(n%8)else o.getD m 0:=fun m=>by
  rw[es]
  by_cases e:m=n/8
  · subst e
    rw[if_pos rfl,QF,QU,if_pos rfl,if_pos ol];rfl
  · rw[if_neg e,getD_set_ne (fun q=>e q.symm)]
 have bl:(bs++[b]).length=n+1:=by simp [hn]
 refine⟨by rw[bl,Bg len],fun j hj=> ?_,fun hc=> ?_⟩
 · rw [bl] at hj
   rw[gn]
   by_cases e:j=n
   · subst e
     rw[if_pos rfl,Iu hb ox,if_pos rfl,QF,hn,QR (uv _)];simp
   · have hjn:j<n:=by omega
     have gb:(bs++[b]).getD j 0=bs.getD j 0:=by rw[QF,QQ (by omega),←QF]
     rw[gb,←bit j hjn,←og j hjn]
     split
     · rename_i e2
       rw[Iu hb ox,if_neg (by omega),e2]
     · rfl
 · rw[bl]at hc ⊢
   have e8:(n+1)/8=n/8:=by omega
   have m8:(n+1)%8=n%8+1:=by omega
   rw[gn,e8,if_pos rfl,m8,Ja ox,Nat.pow_succ]
   have:b* 2^(n%8)≤1* 2^(n%8):=uy _ hb
   omega
theorem H0:∀bs:List Nat,(∀b∈bs,b≤1)→Hu (vm bs) bs:=by
 have key:∀(q p:List Nat) (out:List Nat),(∀b∈q,b≤1)→Hu out p→Hu (wu q p.length out) (p++q):=by
  intro q
  induction q with
  |nil=>intro p out _ h;simpa [wu]using h
  | cons x q ih =>
    intro p out hb h
    have:=ih (p++[x]) (vI out p.length x) (fun b q=>hb b (by simp [q])) (h.step (hb x (by simp)))
    rw[uR,QS]at this
    exact this
 intro bs hb
 exact key bs [] [] hb ⟨rfl,fun j hj=>by simp at hj,fun h=>by simp at h⟩
theorem C5 (bs:List Nat) (hb:∀b∈bs,b≤1):zj (bytesOf (vm bs)) 0 bs:=by
 have v:=H0 bs hb
 have y:=HZ bs hb
 refine⟨by rw[vH,v.len];omega,fun i hi=> ?_⟩
 rw[uC]
 unfold wA
 rw[C6 _ y]
 exact v.bit i hi
theorem Hs {t:ByteArray} {p:Nat} {v:Nat}:∀(n:Nat),(∀i,i<n→wA t (p+i)=v/2^i%2)→u2 t p n=v%2^n
 |0,h=>by simp [u2,Nat.mod_one]
 | n + 1, h => by
   rw[u2,Hs n fun i hi=>h i (by omega),h n (by omega),Nat.pow_succ,Nat.mod_mul,Nat.mul_comm]
theorem FB (v:Nat):∀m i j,j<m→(AR v i m).getD j 0=v/2^(i+j)%2
 |0,i,j,h=>by omega
 |m+1,i,0,h=>rfl
 | m + 1, i, j + 1, h => by
   show(AR v (i+1) m).getD j 0=_
   rw[FB v m (i+1) j (by omega)]
   congr 3;omega
theorem zj.put {t:ByteArray} {p v n:Nat} (h:zj t p (vj v n)) (hv:v<2^n):u2 t p n=v∧p+n≤8* t.size:=by
 obtain⟨h1,h2⟩:=h
 unfold vj at h1 h2
 rw[vt]at h1 h2
 refine⟨?_,h1⟩
 rw[Hs n fun i hi=>by rw[h2 i hi,FB v n 0 i hi,uC],Nat.mod_eq_of_lt hv]
theorem FT (n:Nat):∀(q p:List Int),∃r,syms (p++q) n=syms p n++r
 |[],p=>⟨[],by simp⟩
 | x :: q, p => by
   obtain⟨r,hr⟩:=FT n q (p++[x])
   rw[QS,zg]at hr
   exact⟨_,by rw[show p++x::q=p++([x]++q)by simp,hr,QS]⟩
theorem Ho {l:List Int} {s n:Nat} (hs:s<l.length) (hn:1≤n) (e:l.getD s 0=(n:Int)):(syms l n)[wh (l.take s) n]?=some (s:Int):=by
 have e2:l.take (s+1)=l.take s++[l.getD s 0]:=by
  rw[List.take_add_one,QH hs,QF,QH hs];rfl
 obtain⟨r,hr⟩:=FT n (l.drop (s+1)) (l.take (s+1))
 rw[List.take_append_drop,e2,zg,if_pos ⟨by omega,e⟩]at hr
 have ls:=yU (l.take s) n
 have lt:(l.take s).length=s:=by rw[Q6];omega
 rw[hr,QS,QR (by omega),ls,Nat.sub_self,lt];rfl
theorem Bc (l:List Int) (n:Nat):∀m,(u4 l n+wh l n)* 2^(m+1)≤u4 l (n+m+1)
 |0=>by rw[u4];simp
 | m + 1 => by
   have ih:=Bc l n m
   rw[show n+(m+1)+1=(n+m+1)+1 by omega,u4,Int.pow_succ,←Int.mul_assoc]
   omega
theorem J5 {l:List Int} {n m:Nat} {c:Nat} (hc:u4 l (n+m+1)≤(c:Int)):wM l n ((c/2^(m+1):Nat):Int)=none:=by
 have g:=Bc l n m
 have h1:u4 l n+wh l n≤((c/2^(m+1):Nat):Int):=by
  have p2:((2^(m+1):Nat):Int)=(2:Int)^(m+1):=by push_cast;rfl
  have:(u4 l n+wh l n)* ((2^(m+1):Nat):Int)≤(c:Int):=by rw[p2];omega
  rw[Int.natCast_ediv]
  exact(Int.le_ediv_iff_mul_le (by have:=Nat.pow_pos (n:=m+1) (show 0<2 by omega);omega)).2 this
 unfold wM
 split
 · rw[QT]
   rw[yU];omega
 · rfl
theorem FN {t : ByteArray} {l : List Int} {s N c : Nat} (hs : s < l.length) (hN : 1 ≤ N) (e : l.getD s 0 = (N : Int)) (hc : (c : Int) = u4 l N + wh (l.take s) N) : ∀ (m n k p : Nat), n + m = N → m + 1 ≤ k → zj t p (xw c (m + 1)) → yd t l k n (c / 2 ^ (m + 1)) p = some ((s : Int), p + (m + 1))
 |m,n,0,p,hn,hk,hb=>by omega
 | m, n, k + 1, p, hn, hk, hb => by
   have hb1:zj t p ([c/2^m%2]++xw c m):=hb
   obtain⟨b1,b2⟩:=hb1.app
   have v1:u2 t p 1=c/2^m%2:=by
    have:=b1.2 0 (by simp)
    simp only[Nat.add_zero,List.getD_cons_zero]at this
    simp [u2,this]
   have pl:p+1≤8* t.size:=b1.1
   have vv:c/2^(m+1)* 2+c/2^m%2=c/2^m:=by
    rw[Nat.pow_succ,←Nat.div_div_eq_div_mul];omega
   rw[yd,if_pos pl,v1,vv]
   cases m with
   | zero =>
     have:wM l n ((c/2^0:Nat):Int)=some (s:Int):=by
      have hn':n=N:=by omega
      subst hn'
      unfold wM
      rw[Nat.pow_zero,Nat.div_one,if_pos (by omega)]
      have:((c:Int)-u4 l n).toNat=wh (l.take s) n:=by omega
      rw[this]
      exact Ho hs hN e
     rw[this]
   | succ m =>
     have:wM l n ((c/2^(m+1):Nat):Int)=none:=J5 (by rw[show n+m+1=N by omega];omega)
     rw[this]
     have r:=FN hs hN e hc m (n+1) k (p+1) (by omega) (by omega) b2
     rw[r]
     simp only[uh,uj,true_and];omega
theorem JE {t:ByteArray} {l:List Int} (hl:0≤vg l 15) (hr:∀y∈l,0≤y∧y<16) {s p:Nat} (hs:s<l.length) (h1:1≤l.getD s 0) (hb:zj t p (u1 (uU l) s)):yd t l 15 1 0 p=some ((s:Int),p+(u1 (uU l) s).length):=by
 obtain⟨n,v,g,n1,n2,n3,n4⟩:=(Ea hl hr hs h1).bits
 have g2:(uU l)[s]?=some (xU l s):=by
  unfold uU
  rw[uG,Q8 hs];rfl
 rw[g2]at g
 have g3:=ud g
 unfold xU at g3
 rw[if_pos h1]at g3
 have e1:l.getD s 0=(n:Int):=Rh Prod.fst g3
 have e2:u4 l (l.getD s 0).toNat+wh (l.take s) (l.getD s 0).toNat=(v:Int):=Rh Prod.snd g3
 have tn:((n:Nat):Int).toNat=n:=by omega
 rw[e1,tn]at e2
 rw[n4]at hb ⊢
 rw[vP]
 obtain⟨m,rfl⟩:∃m,n=m+1:=⟨n-1,by omega⟩
 have:=FN hs n1 e1 e2.symm m 1 15 p (by omega) (by omega) hb
 rw[Nat.div_eq_of_lt n3]at this
 exact this
theorem D9 {l:List Int} {s:Nat} (o:zU (uU l) s):s<l.length∧1≤l.getD s 0:=by
 have hs:s<l.length:=by have:=o.lt;rwa [yl]at this
 obtain⟨n,v,g,n1,_⟩:=o
 have g2:(uU l)[s]?=some (xU l s):=by
  unfold uU
  rw[uG,Q8 hs];rfl
 rw[g2]at g
 have g3:=ud g
 unfold xU at g3
 refine⟨hs, ?_⟩
 apply Q0
 intro c
 rw[if_neg c]at g3
 have:=Rh Prod.fst g3
 simp at this
 omega
theorem C8 {most:Int} (d:Nat):∀(n:Nat) (out:List Nat),(out.length:Int)+n≤most→Ba most d n out=.ok (HJ d n out)
 |0,out,h=>rfl
 | n + 1, out, h => by
   rw[Ba,if_neg (by omega),HJ]
   exact C8 d n _ (by simp;omega)
structure Ay (l:List Int):Prop where
 left:0≤vg l 15
 Nm:∀y∈l,0≤y∧y<16
theorem Ay.sym {l:List Int} (b:Ay l) {t:ByteArray} {s p:Nat} (o:zU (uU l) s) (hb:zj t p (u1 (uU l) s)):yd t l 15 1 0 p=some ((s:Int),p+(u1 (uU l) s).length):=
 JE b.left b.Nm (D9 o).1 (D9 o).2 hb
theorem EU (o:List Nat) (t:Tok):o.length≤(vx o t).length:=by
 unfold vx
 split
 · simp
 · rw[Bw];omega
theorem EW:∀(ts:List Tok) (o:List Nat),o.length≤(wg ts o).length
 |[],o=>uv _
 |t::r,o=>uP (EU o t) (EW r _)
theorem BS {t : ByteArray} {la lb : List Int} (bA : Ay la) (bB : Ay lb) (o256 : zU (uU la) 256) {most : Int} : ∀ (ts : List Tok) (k p : Nat) (out : List Nat), zj t p (vO (uU la) (uU lb) ts ++ u1 (uU la) 256) → (∀ x ∈ ts, G7 (uU la) (uU lb) x) → vk out.length ts = true → ((wg ts out).length : Int) ≤ most → ts.length < k →
 wI t most la lb k p out=.ok (p+(vO (uU la) (uU lb) ts++u1 (uU la) 256).length,wg ts out)
 |ts,0,p,out,hb,ok,hm,hl,hk=>by omega
 | [], k + 1, p, out, hb, ok, hm, hl, hk => by
   have hb':zj t p (u1 (uU la) 256):=hb
   have s:=bA.sym o256 hb'
   rw[wI,s]
   simp only
   rw[if_neg (by omega),if_pos (by omega)]
   rfl
 | x :: r, k + 1, p, out, hb, ok, hm, hl, hk => by
   have ox:=ok x (by simp)
   have e:vO (uU la) (uU lb) (x::r)++u1 (uU la) 256=vz (uU la) (uU lb) x++(vO (uU la) (uU lb) r++u1 (uU la) 256):=by
    unfold vO;rw[QM,QS]
   rw[e]at hb ⊢
   obtain⟨h1,h2⟩:=hb.app
   have gl:=EW r (vx out x)
   have hl':((wg r (vx out x)).length:Int)≤most:=hl
   rw[vk]at hm
   cases hst:vF out.length x with
   |none=>rw[hst]at hm;cases hm
   | some s' =>
     rw[hst]at hm
     simp only at hm
     by_cases k8:8192<s'
     · rw[if_pos k8]at hm;cases hm
     rw[if_neg k8]at hm
     unfold vF at hst
     have rec_:s'=((vx out x).length:Nat)→wI t most la lb k (p+(vz (uU la) (uU lb) x).length) (vx out x)=.ok (p+(vz (uU la) (uU lb) x++(vO (uU la) (uU lb) r++u1 (uU la) 256)).length,wg r (vx out x)):=fun es=>by
      have:=BS bA bB o256 r k _ (vx out x) h2 (fun y hy=>ok y (by simp [hy])) (by rw[←es];exact hm) hl' (by simp at hk;omega)
      rw[this, @uR _ (vz _ _ _),uu]
     rw[wg]
     by_cases c0:x.len=0
     · rw[if_pos c0]at hst
       by_cases c:x.lit<0∨255<x.lit∨x.vD≠0
       · rw[if_pos c]at hst;cases hst
       rw[if_neg c]at hst
       obtain rfl:=ud hst
       have tb:vz (uU la) (uU lb) x=u1 (uU la) x.lit.toNat:=by rw[vz,if_pos c0]
       rcases ox with ⟨_,q2,q3⟩|⟨q,_⟩
       · have es:vx out x=out++[x.lit.toNat]:=by unfold vx;rw[if_pos c0]
         rw[es]at gl hl' rec_ ⊢
         rw[uR,List.length_singleton]at gl rec_
         rw[tb]at h1 rec_ ⊢
         have s:=bA.sym q3 h1
         rw[wI,s]
         simp only
         have tl:((x.lit.toNat:Nat):Int)<256:=by omega
         rw[if_pos tl,if_neg (by omega)]
         have tn:(((x.lit.toNat:Nat):Int)).toNat=x.lit.toNat:=by omega
         rw[tn]
         exact rec_ (by push_cast;rfl)
       · omega
     · rw[if_neg c0]at hst
       by_cases c:x.len<3∨258<x.len∨x.vD<1∨32768<x.vD∨(out.length:Int)<x.vD∨x.lit≠0
       · rw[if_pos c]at hst;cases hst
       rw[if_neg c]at hst
       obtain rfl:=ud hst
       obtain⟨L,hL⟩:∃y:Nat,x.len=y:=QN (by omega)
       obtain⟨D,hD⟩:∃y:Nat,x.vD=y:=QN (by omega)
       have Lt:x.len.toNat=L:=by omega
       have Dt:x.vD.toNat=D:=by omega
       rcases ox with ⟨q,_⟩|⟨_,_,_,_,q5,q6⟩
       · exact absurd q c0
       rw[Lt]at q5
       rw[Dt]at q6
       have es:vx out x=HJ D L out:=by unfold vx;rw[if_neg c0,Lt,Dt]
       have cl:=Bw D L out
       have tb:vz (uU la) (uU lb) x=u1 (uU la) (wH L)++(vj (zF L) (yL L)++(u1 (uU lb) (w9 D)++vj (Ad D) (zm D))):=by rw[vz,if_neg c0,Lt,Dt]
       rw[es]at gl hl' rec_ ⊢
       rw[tb]at h1 rec_ ⊢
       obtain⟨i1,i2⟩:=h1.app
       obtain⟨i3,i4⟩:=i2.app
       obtain⟨i5,i6⟩:=i4.app
       have s1:=bA.sym q5 i1
       have lb_:=D4 (k:=L) (by omega) (by omega)
       have db_:=DV (k:=D) (by omega) (by omega)
       have ls:=xp (k:=L) (by omega) (by omega)
       have ds:=xk (k:=D) (by omega) (by omega)
       obtain⟨a,b,hab⟩:=zE ls.1 ls.2.1
       obtain⟨a',b',hab'⟩:=yI ds.1
       have ea:u7 (lenOf (wH L))=a:=by rw[hab];rfl
       have eb:yL L=b:=by unfold yL;rw[hab];rfl
       have ea':u7 (vq (w9 D))=a':=by rw[hab'];rfl
       have eb':zm D=b':=by unfold zm;rw[hab'];rfl
       have v1:=i3.put lb_.2
       have v2:=i6.put db_.2
       have pl:∀v n,(vj v n).length=n:=fun v n=>by unfold vj;exact vt v n 0
       rw[pl]at i5 v2
       have s2:=bB.sym q6 i5
       have eL:a+zF L=L:=by unfold zF;rw[ea];omega
       have eD:a'+Ad D=D:=by unfold Ad;rw[ea'];omega
       rw[wI,s1]
       simp only
       rw[if_neg (by omega),if_neg (by omega)]
       have tn:(((wH L:Nat):Int)).toNat=wH L:=by omega
       have tn2:(((w9 D:Nat):Int)).toNat=w9 D:=by omega
       have cp:A9 t most lb (wH L) (p+(u1 (uU la) (wH L)).length) out=.ok (p+(u1 (uU la) (wH L)++(vj (zF L) (yL L)++(u1 (uU lb) (w9 D)++vj (Ad D) (zm D)))).length,HJ D L out):=by
        unfold A9
        rw[hab]
        simp only
        rw[←eb,if_pos v1.2,s2]
        simp only
        rw[tn2,hab']
        simp only
        rw[←eb',v2.1,v1.1,eL,eD,if_pos ⟨v2.2,by omega⟩,C8 D L out (by omega)]
        simp only[uR,pl,Except.ok.injEq,uj,and_true]
        omega
       rw[tn,cp]
       simp only
       exact rec_ (by rw[cl,hL];push_cast;rfl)
theorem Ay.I7 {C l:List Int} {K k:Nat} (hC:∀y∈C,0≤y∧y≤2147483647) (h2:2≤C.length) (hl:C.length≤288) (hk:k≤C.length) (hk1:1≤k) (r:wo 15 K (v8 C)) (e:l=xg (vL C K) k):Ay l∧((∃y∈C,0<y)→vh l=0)∧((∀y∈C,¬0<y)→∀y∈l,y=0):=by
 obtain⟨a,b,c,d,l0⟩:=BV (m:=0) hC h2 hl hk hk1 r e
 obtain⟨f1,f2,f3,f4,f5⟩:=xm hC h2 hl (by omega) r
 refine⟨⟨l0,b⟩,fun ex=> ?_,fun nn y hy=> ?_⟩
 · rw[wU (by omega) (by omega) b l0,if_pos]
   rw[e,Bx (fun y hy=>(f2 y hy).1) k 15]
   exact f4 ex
 · rw[e,f5 nn]at hy
   exact Q5 (List.mem_of_mem_take hy)
theorem AY:∀(l:List Int) (a:Int),(∀y∈l,y=0)→JD l a=a
 |[],a,h=>rfl
 | y :: l, a, h => by
   have:=h y (by simp)
   subst this
   rw[JD]
   first
    |exact AY l a fun z hz=>h z (by simp [hz])
    |(simp;exact AY l a fun z hz=>h z (by simp [hz]))
theorem Aj {t:ByteArray} {Lc:List Int} (bk:Ay Lc) (many:Nat):∀(q acc:List Int) (f p:Nat),zj t p (xP (uU Lc) q)→(∀y∈q,zU (uU Lc) y.toNat)→(∀y∈q,0≤y∧y<16)→acc.length+q.length=many→q.length<f→vR t Lc many f acc p=some (acc++q,p+(xP (uU Lc) q).length)
 |q,acc,0,p,hb,ok,hr,hm,hf=>by omega
 | [], acc, f + 1, p, hb, ok, hr, hm, hf => by
   simp at hm
   rw[vR,if_neg (by omega),if_neg (by omega)]
   simp [xP]
 | y :: q, acc, f + 1, p, hb, ok, hr, hm, hf => by
   have e:xP (uU Lc) (y::q)=u1 (uU Lc) y.toNat++xP (uU Lc) q:=by unfold xP;rw[QM]
   rw[e]at hb ⊢
   obtain⟨h1,h2⟩:=hb.app
   have s:=bk.sym (ok y (by simp)) h1
   have yr:=hr y (by simp)
   have ty:((y.toNat:Nat):Int)=y:=by omega
   simp only[QG]at hm hf
   rw[vR,if_pos (by omega),s]
   simp only
   rw[ty]
   have ag:yi t y acc (p+(u1 (uU Lc) y.toNat).length)=some (y,1,p+(u1 (uU Lc) y.toNat).length):=by
    unfold yi
    rw[if_neg (by omega),if_neg (by omega),if_neg (by omega)]
   rw[ag]
   simp only
   have r:=Aj bk many q (acc++[y]) f _ h2 (fun z hz=>ok z (by simp [hz])) (fun z hz=>hr z (by simp [hz])) (by simp;omega) (by omega)
   have e1:List.replicate 1 y=[y]:=rfl
   rw[e1,r,uR,←uu,QS];rfl
def CW (L:List Int):List Int→List Int→List Int
 |[],o=>o
 |s::r,o=>CW L r (o.set s.toNat (L.getD s.toNat 0))
theorem Fp {t:ByteArray} {L:List Int} (hr:∀y∈L,0≤y∧y<8):∀(os:List Int) (p:Nat) (o:List Int),zj t p (yB (os.map fun s=>L.getD s.toNat 0))→(∀s∈os,s.toNat<L.length)→Ed t os p o=CW L os o
 |[],p,o,hb,hs=>rfl
 | s :: os, p, o, hb, hs => by
   have e:yB ((s::os).map fun s=>L.getD s.toNat 0)=vj (L.getD s.toNat 0).toNat 3++yB (os.map fun s=>L.getD s.toNat 0):=by unfold yB;rw[QO,QM]
   rw[e]at hb
   obtain⟨h1,h2⟩:=hb.app
   have hl:=hs s (by simp)
   have yr:0≤L.getD s.toNat 0∧L.getD s.toNat 0<8:=hr _ (by rw[QF,QH hl];exact QW hl)
   have v:=h1.put (by omega)
   have pl:(vj (L.getD s.toNat 0).toNat 3).length=3:=by unfold vj;exact vt _ _ _
   rw[pl]at h2
   rw[Ed,CW,v.1,Fp hr os _ _ h2 (fun z hz=>hs z (by simp [hz]))]
   congr 2;omega
theorem Fm (L:List Int):∀(os o:List Int),(CW L os o).length=o.length
 |[],o=>rfl
 |s::os,o=>by rw[CW,Fm L os,Q1]
theorem Fl (L : List Int) : ∀ (os o : List Int) (j : Nat), j < o.length → (CW L os o).getD j 0 = if (∃ s ∈ os, s.toNat = j) then L.getD j 0 else o.getD j 0
 |[],o,j,hj=>by simp [CW]
 | s :: os, o, j, hj => by
   rw[CW,Fl L os _ j (by rw[Q1];exact hj)]
   by_cases c:∃s∈os,s.toNat=j
   · rw[if_pos c,if_pos (by obtain⟨u,hu,e⟩:=c;exact⟨u,by simp [hu],e⟩)]
   · rw[if_neg c]
     by_cases e:s.toNat=j
     · subst e
       rw[if_pos ⟨s,by simp,rfl⟩,QF,QU,if_pos rfl,if_pos hj];rfl
     · rw[getD_set_ne e,if_neg]
       rintro ⟨u,hu,e2⟩
       rcases uO.1 hu with q|q
       · subst q;exact e e2
       · exact c ⟨u,q,e2⟩
theorem HY:∀j:Nat,j<19→∃i:Nat,i<19∧ve[i]?=some (j:Int):=by
 intro j hj
 have:∀j:Nat,j<19→∃i:Nat,i<19∧ve[i]?=some (j:Int):=by decide
 exact this j hj
theorem Jb {L : List Int} (hl : L.length = 19) (h0 : ∀ y ∈ L, 0 ≤ y) : CW L (ve.take (vu (ve.map fun s => L.getD s.toNat 0) 4 19)) (List.replicate 19 0) = L := by
 apply List.ext_getElem?
 intro j
 have fl:=Fm L (ve.take (vu (ve.map fun s=>L.getD s.toNat 0) 4 19)) (List.replicate 19 0)
 rw[QV]at fl
 by_cases hj:j<19
 · have g:=Fl L (ve.take (vu (ve.map fun s=>L.getD s.toNat 0) 4 19)) (List.replicate 19 0) j (by simpa using hj)
   rw[QH (by omega),QH (by omega)]
   rw[QF,QH (by omega)]at g
   congr 1
   have g':(CW L (ve.take (vu (ve.map fun s=>L.getD s.toNat 0) 4 19)) (List.replicate 19 0))[j]'(by omega)=_:=g
   rw[g']
   have e:L.getD j 0=L[j]'(by omega):=by rw[QF,QH (by omega)];rfl
   split
   · exact e
   · rename_i c
     rw[zc hj]
     obtain⟨i,hi,oi⟩:=HY j hj
     have hk:vu (ve.map fun s=>L.getD s.toNat 0) 4 19≤i:=by
      apply Q0
      intro q
      refine c ⟨(j:Int), ?_,by omega⟩
      refine uz (i:=i) ?_
      rw[uQ,if_pos (by omega),oi]
     have z:=xF (ve.map fun s=>L.getD s.toNat 0) 4 19 i hk hi
     have tj:((j:Nat):Int).toNat=j:=by omega
     rw[QF,uG,oi]at z
     simp only[QK,Option.getD_some,tj]at z
     have nn:=h0 _ (QW (l:=L) (n:=j) (by omega))
     omega
 · rw[QT (by omega),QT (by omega)]
theorem GO {t : ByteArray} {ts : List Tok} {KA KB KC : Nat} {la lb Lc : List Int} (ok : zV ts KA KB KC la lb Lc) (hb : zj t 0 (vp ts la lb Lc)) (hm : vk 0 ts = true) {most : Int} (hl : ((wg ts []).length : Int) ≤ most) : HL t most 3 [] = .ok ((vp ts la lb Lc).length, wg ts []) ∧ u2 t 0 1 = 1 ∧ u2 t 1 2 = 2 ∧ 3 ≤ 8 * t.size := by
 obtain⟨zC,hn,tok,ra,rb,ea,eb,hall,rc,ec,hrow,ca,cb,cc,xZ,Kf,Be⟩:=ok
 obtain⟨a1,a2,a3⟩:=EO ts hn
 obtain⟨b1,b2⟩:=EP ts hn
 obtain⟨x1,x2,x3,x4,x5⟩:=BV (m:=0) a2 (by omega) (by omega) (by omega) (by omega) ra ea
 obtain⟨y1,y2,y3,y4,y5⟩:=BV (m:=0) b2 (by omega) (by omega) (by omega) (by omega) rb eb
 obtain⟨bkA,chA,_⟩:=Ay.I7 a2 (by omega) (by omega) (by omega) (by omega) ra ea
 obtain⟨bkB,chB,zB⟩:=Ay.I7 b2 (by omega) (by omega) (by omega) (by omega) rb eb
 have c1:(wB (la++lb) (List.replicate 19 0)).length=19:=by rw[z4,QV]
 have c2:∀y∈wB (la++lb) (List.replicate 19 0),0≤y∧y≤2147483647:=fun y hy=>by
  have:=z5 (la++lb) _ 0 (by omega) (yx 19) y hy
  rw[uR]at this
  omega
 obtain⟨f1,f2,f3,f4,f5⟩:=xm c2 (by omega) (by omega) (by omega) rc
 rw[←ec]at f1 f2 f3 f4 f5
 have lLc:Lc.length=19:=by omega
 have hit:=BQ (la++lb) (List.replicate 19 0) (fun y hy=>(yx 19 y hy).1) (by rw[QV])
 have exC:∃y∈wB (la++lb) (List.replicate 19 0),0<y:=by
  obtain⟨z,hz⟩:=List.exists_mem_of_ne_nil (la++lb) (fun q=>by
   have:=Rh List.length q
   rw[uR,QI]at this
   omega)
  have h:=hit z hz (hall z hz)
  refine⟨_, ?_,show 0<(wB (la++lb) (List.replicate 19 0)).getD z.toNat 0 by omega⟩
  have zl:z.toNat<(wB (la++lb) (List.replicate 19 0)).length:=by have:=hall z hz;omega
  rw[QF,QH zl]
  exact QW zl
 have l0:=f4 exC
 have r16:∀y∈Lc,0≤y∧y<16:=fun y hy=>by have:=f2 y hy;omega
 have bkC:Ay Lc:=⟨by omega,r16⟩
 have chC:vh Lc=0:=by rw[wU (by omega) (by omega) r16 (by omega),if_pos l0]
 have exA:∃y∈dA ts,0<y:=by
  have zl:256<(dA ts).length:=by omega
  refine⟨(dA ts).getD 256 0, ?_,by omega⟩
  rw[QF,QH zl]
  exact QW zl
 have chA':=chA exA
 have chB':¬(vh lb≠0∧wL lb=false):=by
  rintro ⟨q1,q2⟩
  by_cases c:∃y∈dB ts,0<y
  · exact q1 (chB c)
  · have:=AY lb 0 (zB fun y hy q=>c ⟨y,hy,q⟩)
    unfold wL at q2
    rw[this]at q2
    simp at q2
 obtain⟨R,hR⟩:∃R,R=ve.map (fun o=>Lc.getD o.toNat 0):=⟨_,rfl⟩
 obtain⟨k,hk⟩:∃k,k=vu R 4 19:=⟨_,rfl⟩
 have uk:=v5 R 4 19
 rw[←hk]at uk
 have eD:vp ts la lb Lc=vj 5 3++(vj (la.length-257) 5++(vj (lb.length-1) 5++(vj (k-4) 4++(yB (R.take k)++(xP (uU Lc) (la++lb)++(vO (uU la) (uU lb) ts++u1 (uU la) 256)))))):=by rw[hk,hR];rfl
 rw[eD]at hb ⊢
 have pl:∀v n,(vj v n).length=n:=fun v n=>by unfold vj;exact vt v n 0
 obtain⟨h1,g1⟩:=hb.app
 rw[pl]at g1
 obtain⟨h2,g2⟩:=g1.app
 rw[pl]at g2
 obtain⟨h3,g3⟩:=g2.app
 rw[pl]at g3
 obtain⟨h4,g4⟩:=g3.app
 rw[pl]at g4
 obtain⟨h5,g5⟩:=g4.app
 obtain⟨h6,g6⟩:=g5.app
 have v2:=h2.put (by omega)
 have v3:=h3.put (by omega)
 have v4:=h4.put (by omega)
 have rl:(yB (R.take k)).length=3* k:=by rw[yT,Q6,hR,Ri];show 3* min k 19=_;omega
 rw[rl]at g5 g6 h6
 have rb5:yB (R.take k)=yB ((ve.take k).map fun s=>Lc.getD s.toNat 0):=by rw[hR,List.map_take]
 have h5':=h5
 rw[rb5]at h5'
 have own:=Fp hrow (ve.take k) _ (List.replicate 19 0) h5' (fun s hs=>by have:=Dv s (List.mem_of_mem_take hs);omega)
 have back:=Jb lLc (fun y hy=>(hrow y hy).1)
 rw[←hR,←hk]at back
 rw[back]at own
 have okr:∀y∈la++lb,0≤y∧y<16:=fun y hy=>by
  rcases Q7.1 hy with q|q
  · exact x2 y q
  · exact y2 y q
 have h5l:=h5.1
 rw[rl]at h5l
 have h6l:=h6.1
 have g6l:=g6.1
 have ll:(la++lb).length=la.length+lb.length:=uR
 have all:=Aj bkC (la.length+lb.length) (la++lb) [] (8* t.size+1) _ h6 xZ okr (by simp) (by
  have:∀D:List Int,(∀y∈D,zU (uU Lc) y.toNat)→D.length≤(xP (uU Lc) D).length:=by
   intro D
   induction D with
   |nil=>intro _;simp
   | cons y D ih =>
     intro h
     have:=ih fun z hz=>h z (by simp [hz])
     obtain⟨n,v,_,q1,q2,q3,q4⟩:=(h y (by simp)).bits
     unfold xP at *
     rw[QM,uR,q4,vP,QG];omega
  have:=this _ xZ
  omega)
 have cod:=BS bkA bkB Be ts (8* t.size+1) _ [] g6 Kf hm hl (by
  have:∀T:List Tok,(∀x∈T,G7 (uU la) (uU lb) x)→T.length≤(vO (uU la) (uU lb) T).length:=by
   intro T
   induction T with
   |nil=>intro _;simp
   | cons x T ih =>
     intro h
     have:=ih fun z hz=>h z (by simp [hz])
     have o:=h x (by simp)
     have one:1≤(vz (uU la) (uU lb) x).length:=by
      rcases o with ⟨h1,h2,h3⟩|⟨h1,h2,h3,h4,h5,h6⟩
      · obtain⟨n,v,_,q1,q2,q3,q4⟩:=h3.bits
        rw[vz,if_pos h1,q4,vP];omega
      · obtain⟨n,v,_,q1,q2,q3,q4⟩:=h5.bits
        rw[vz,if_neg (by omega),q4,uR,vP];omega
     unfold vO at *
     rw[QM,uR,QG];omega
  have:=this _ Kf
  rw[uR]at g6l
  omega)
 have v1:=h1.put (by omega)
 simp only[uC,Nat.reduceAdd,List.nil_append]at v1 v2 v3 v4 own all cod h5l
 have n1:u2 t 3 5+257=la.length:=by rw[v2.1];omega
 have n2:u2 t 8 5+1=lb.length:=by rw[v3.1];omega
 have n3:u2 t 13 4+4=k:=by rw[v4.1];omega
 have lens:xK t (la.length+lb.length) 13=some (la++lb,17+3* k+(xP (uU Lc) (la++lb)).length):=by
  unfold xK
  simp only[Nat.reduceAdd,n3]
  rw[if_pos (by omega),if_pos (by omega),own,if_pos chC,all]
 have tk:(la++lb).take la.length=la:=List.take_left' rfl
 have dr:(la++lb).drop la.length=lb:=List.drop_left' rfl
 have g256:la.getD 256 0≠0:=by have:=(D9 Be).2;omega
 refine⟨?_, ?_, ?_,by omega⟩
 · unfold HL
   simp only[Nat.reduceAdd,n1,n2]
   rw[if_pos (by omega),if_neg (by omega),lens]
   simp only[tk,dr]
   rw[if_neg (by rintro (q|q|q);exact q chA';exact g256 q;exact chB' q),cod]
   simp only[uR,pl,rl,Except.ok.injEq,uj,and_true]
   omega
 · have b0:=h1.2 0 (by rw[pl];omega)
   have e0:(vj 5 3).getD 0 0=1:=by decide
   rw[e0]at b0
   simp [u2,b0]
 · have b1:=h1.2 1 (by rw[pl];omega)
   have b2:=h1.2 2 (by rw[pl];omega)
   have e1:(vj 5 3).getD 1 0=0:=by decide
   have e2:(vj 5 3).getD 2 0=1:=by decide
   rw[e1]at b1
   rw[e2]at b2
   simp only[uC]at b1 b2
   simp [u2,b1,b2]
theorem E8 {s:ByteArray} (hs:s.size≤300) {KA KB KC:Nat} {la lb Lc:List Int} (ok:zV (tokens s) KA KB KC la lb Lc) {most:Int} (hm1:(s.size:Int)≤most) (hm2:most≤8192):wW (bytesOf (vm (vp (tokens s) la lb Lc))) most=.ok (preB s s.size,(bytesOf (vm (vp (tokens s) la lb Lc))).size):=by
 obtain⟨t1,t2,t3,t4⟩:=yf s hs s.size 0 (by omega) (by omega)
 have t3':vk 0 (tokens s)=true:=t3
 have t4':wg (tokens s) []=preB s s.size:=t4
 have hb:=C5 (vp (tokens s) la lb Lc) (GP _ _ _ _)
 obtain⟨d,v1,v2,sz⟩:=GO ok hb t3' (most:=most) (by rw[t4',wK];omega)
 rw[t4']at d
 have psz:(bytesOf (vm (vp (tokens s) la lb Lc))).size=((vp (tokens s) la lb Lc).length+7)/8:=by rw[vH,wS]
 generalize bytesOf (vm (vp (tokens s) la lb Lc))=T at *
 unfold wW
 rw[if_neg (by omega)]
 have bl:xQ T most 0 []=.ok (true,(vp (tokens s) la lb Lc).length,preB s s.size):=by
  unfold xQ
  simp only[uC]
  rw[if_pos sz,v2]
  simp only[Nat.reduceEqDiff,uS,if_true,reduceIte]
  rw[d]
  simp [v1]
 rw[yu,bl]
 simp only[if_true,psz]
theorem Cu (s:ByteArray):bytesOf (preB s s.size)=s:=by
 have:preB s s.size=Nw s:=by
  apply List.ext_getElem?
  intro i
  by_cases h:i<s.size
  · have g:=C6 (Nw s) (Nx s) i
    rw[A8]at g
    have l1:=Hp s
    rw[QH (by rw[wK];exact h),QH (by omega)]
    congr 1
    have a:=FA s h
    rw[QF,QH (by rw[wK];exact h)]at a
    rw[QF,QH (by omega)]at g
    exact a.trans g
  · rw[QT (by rw[wK];omega),QT (by rw[Hp];omega)]
 rw[this,A8]
theorem JK {h:H} (hf:h.floor≤h.next):WX h (h.alloc [.aO,.int .i64 0]) h.next [] .aO:=by
 refine⟨⟨by rw[u9 rfl];rfl,vG.nil,by simpa using hf,by simp;omega,by simp [AV.id?],fun b hb=>by simp [vm,wu]at hb⟩,(Ext.refl _).alloc _,uv _,by simp,fun j hj=>by simp [AV.id?]at hj⟩
def we (n:Nat):List Nat:=vj 1 3++(List.replicate 5 0++(vj n 16++vj (65535-n) 16))
def yz (s:ByteArray):ByteArray:=bytesOf (vm (we s.size))++s
def wV:List Int:=List.replicate 30 5
theorem B5:vg vy 15=0:=by decide+kernel
theorem Dc:vg wV 15=2048:=by decide+kernel
theorem wP:vy.length=288:=by decide+kernel
theorem yY:∀y∈vy,1≤y∧y<16:=by
 have:vy.all (fun y=>decide (1≤y∧y<16))=true:=by decide+kernel
 intro y hy
 simpa using List.all_eq_true.1 this y hy
theorem EY:∀y∈wV,1≤y∧y<16:=fun y hy=>by have:=Q5 hy;omega
theorem xy:Ay vy:=⟨by rw[B5];omega,fun y hy=>by have:=yY y hy;omega⟩
theorem AE:Ay wV:=⟨by rw[Dc];omega,fun y hy=>by have:=EY y hy;omega⟩
theorem Bu {l:List Int} (b:Ay l) (hr:∀y∈l,1≤y∧y<16) {s:Nat} (hs:s<l.length):zU (uU l) s:=by
 refine Ea b.left b.Nm hs ?_
 rw[QF,QH hs]
 exact(hr _ (QW hs)).1
theorem HO {t:Tok} (o:xe t):G7 (uU vy) (uU wV) t:=by
 refine I8 (ts:=[]) o (fun h=> ?_) (fun h=> ?_) (fun h=> ?_)
 · rcases o with ⟨_,b,c⟩|⟨a,_⟩
   · exact Bu xy yY (by rw[wP];omega)
   · omega
 · rcases o with ⟨a,_⟩|⟨a,b,_⟩
   · exact absurd a h
   · have:=xp (k:=t.len.toNat) (by omega) (by omega)
     exact Bu xy yY (by rw[wP];omega)
 · rcases o with ⟨a,_⟩|⟨a,b,c,d⟩
   · exact absurd a h
   · have:=xk (k:=t.vD.toNat) (by omega) (by omega)
     have l:wV.length=30:=by simp [wV]
     exact Bu AE EY (by rw[l];omega)
def yX (ts:List Tok):List Nat:=vj 3 3++(vO (uU vy) (uU wV) ts++u1 (uU vy) 256)
theorem zY {bs:List Nat}:(bytesOf (vm bs)).size=(bs.length+7)/8:=by rw[vH,wS]
def BW (s:ByteArray) (la lb Lc:List Int):ByteArray:=bytesOf (vm (vp (tokens s) la lb Lc))
def M5 (s:ByteArray):ByteArray:=bytesOf (vm (yX (tokens s)))
theorem GB (s:ByteArray) (hs:s.size≤300):(tokens s).length≤300∧(∀t∈tokens s,xe t)∧vk 0 (tokens s)=true∧wg (tokens s) []=preB s s.size:=by
 obtain⟨t1,t2,t3,t4⟩:=yf s hs s.size 0 (by omega) (by omega)
 exact⟨by unfold tokens;omega,t2,t3,t4⟩
theorem Iv {g:H} {w id n b:Nat} {P:List Nat} {x:Nat} (hb:b≤1) (hw:g.get w=some [.aD id 0 (n/8+1) 1,.int .i64 n]) (hi:g.get id=some (xI P)) (hl:P.length=n/8+1) (hx:P[n/8]?=some x) (hx8:x<256) (hne:id≠w) (hf:g.floor≤w) (hf2:g.floor≤id) (hn:n<1000000):
 ∃e',aK (aQ AP.A) bo (KX 1 AP.f347.body) [(0,.aC w 0),(1,.int .i64 b)] g=some (.normal,e',(g.set id (xI (P.set (n/8) (x|||b* 2^(n%8))))).set w [.aD id 0 (n/8+1) 1,.int .i64 ((n:Int)+1)]):=by
 have c8:b* 2^(n%8)<256:=by
  have h1:2^(n%8)≤2^7:=QX (by omega) (by omega)
  have h2:b* 2^(n%8)≤1* 2^7:=Nat.mul_le_mul hb h1
  omega
 have s1:=Ko hb (show n%8<8 by omega)
 have o1:=Iw hx8 c8
 have w1:=PW (n:=b* 2^(n%8)) c8
 have rm:=Pd (a:=n) (n:=8) (by omega)
 have rm':bh .rem (.int .i64 (n:Int)) (.int .i64 8)=some (.int .i64 ((n%8:Nat):Int)):=rm
 have w2:IntKind.wrap .i64 (((n/8+1:Nat):Int)-1)=((n/8:Nat):Int):=by rw[wi (by omega)];omega
 have bl:=K2 P
 have gx:=NL hx
 have st:=Pl P (n/8) (x|||b* 2^(n%8))
 have sgn:((n/8:Nat):Int).toNat=n/8:=by omega
 have gw2:(g.set id (xI (P.set (n/8) (x|||b* 2^(n%8))))).get w=some [.aD id 0 (n/8+1) 1,.int .i64 n]:=by rw[uV (fun q=>hne q.symm),hw]
 generalize xI P=BP at *
 generalize b* 2^(n%8)=Y at *
 generalize (x|||Y)=Z at *
 generalize xI (P.set (n/8) Z)=BZ at *
 refine⟨?_, ?_⟩
 rotate_left
 simp (disch:=first|omega|(simp only[wm,QG,QI,uC,Nat.reduceAdd];first|done|omega|fail)|(simp (disch:=first|omega|(simp only[wm,QG,QI,uC,Nat.reduceAdd];first|done|omega|fail)|fail)only[wm,Bs,QK,QG,QI,uC,Nat.reduceAdd];done)|fail)only[go_sem,vo,Br,AP.f347,hw,hi,s1,o1,w1,rm',w2,bl,hl,gx,st,sgn,gw2]
 rfl
theorem Ky {h : H} {w b : Nat} {bs : List Nat} {ov : AV} (wr : Wr h w bs ov) (hb : b ≤ 1) (hn : bs.length < 1000000) :
 ∃h' ov',aQ AP.A 347 [.aC w 0,.int .i64 b] h=some (.bJ [],h')∧Wr h' w (bs++[b]) ov'∧FY h w ov h' ov':=by
 obtain⟨gw,ow,fl,Ih,ne,GJ⟩:=wr
 obtain⟨n,en⟩:∃n,n=bs.length:=⟨_,rfl⟩
 rw[←en]at gw hn
 have pl:=wS bs
 rw[←en]at pl
 have pa:=Dw bs b
 rw[←en]at pa
 obtain⟨P,eP⟩:∃P,P=vm bs:=⟨_,rfl⟩
 rw[←eP]at ow GJ pa pl
 have wlt:=h.lt _ _ gw
 obtain ⟨g, ov', id, P', x, s1, hw, hi, hl, hx, hid, hne, hf, hf2, hflx, hP, hk, hx8, hids, hbt⟩ : ∃ g ov' id P' x, aK (aQ AP.A) bo (at_ 0 AP.f347.body) [(0, .aC w 0), (1, .int .i64 b)] h = some (.normal, [(0, .aC w 0), (1, .int .i64 b)], g) ∧ g.get w = some [.aD id 0 (n / 8 + 1) 1, .int .i64 n] ∧ g.get id = some (xI P') ∧ P'.length = n / 8 + 1 ∧ P'[n / 8]? = some x ∧ ov' = AV.aD id 0 (n / 8 + 1) 1 ∧ id ≠ w ∧ g.floor = h.floor ∧ h.floor ≤ id ∧ h.next ≤ g.next ∧ vI P n b = P'.set (n / 8) (x ||| b * 2 ^ (n % 8)) ∧ (∀ i, i < h.next → i ≠ w → ov.id? ≠ some i → g.get i = h.get i) ∧ x < 256 ∧ (ov.id? = some id ∨ h.next ≤ id) ∧ JM P' := by
  have rm:bh .rem (.int .i64 (n:Int)) (.int .i64 8)=some (.int .i64 ((n%8:Nat):Int)):=Pd (a:=n) (n:=8) (by omega)
  by_cases c:n%8=0
  · have cz:((n%8:Nat):Int)=0:=by omega
    obtain⟨v',h',p1,p2,p3,p4,p5,p6⟩:=ow.push Ih (z:=1) (m:=1) (by omega) (by omega) [.int .u8 0] rfl rfl (ze (by omega))
    have gw1:h'.get w=some [ov,.int .i64 n]:=by rw[p5 w ne wlt,gw]
    have e1:=p2.1
    rcases p2.2 with ⟨_,q⟩|⟨id,q1,q2,q3,q4⟩
    · omega
    · have hk:P.length+1=n/8+1:=by omega
      rw[hk]at q1
      have qid:id=h.next+1:=by rw[q1]at p6;exact ud p6
      refine⟨h'.set w [v',.int .i64 n],v',id,P++[0],0, ?_, ?_, ?_, ?_, ?_,q1,by omega,by simp [p3],by omega, ?_, ?_, ?_,by omega,.inr (by omega), ?_⟩
      · rw[q1]
        rw[q1]at p1
        have fl':h'.floor≤w:=by omega
        simp (disch:=omega)only[go_sem,vo,AP.f347,F6,gw,gw1,rm,cz,p1,fl',vi,uV]
      · rw[vi rfl,gw1,q1];rfl
      · rw[uV (by omega),q2,EF];rfl
      · simp;omega
      · rw[QR (by omega),show n/8-P.length=0 by omega];rfl
      · simp;omega
      · unfold vI;rw[if_pos c];dsimp only;rw[QF,QR (by omega),show n/8-P.length=0 by omega];rfl
      · intro i hi hiw hio
        rw[uV hiw,p5 i hio hi]
      · intro y hy
        rcases Q7.1 hy with q|q
        · exact GJ y q
        · simp at q;omega
  · have cz:¬((n%8:Nat):Int)=0:=by omega
    rcases ow.2 with ⟨_,q⟩|⟨id,q1,q2,q3,q4⟩
    · omega
    · have hk:P.length=n/8+1:=by omega
      rw[hk]at q1
      obtain⟨x,hx⟩:∃x,P[n/8]?=some x:=⟨_,QH (by omega)⟩
      have hneq:id≠w:=fun q=>ne (by rw[q1,q];rfl)
      refine⟨h,ov,id,P,x, ?_,by rw[gw,q1],q2,hk,hx,q1,hneq,rfl,q3,uv _, ?_,fun _ _ _ _=>rfl,GJ x (uz hx),.inl (by rw[q1];rfl),GJ⟩
      · simp (disch:=first|omega|(simp only[wm,QG,QI,uC,Nat.reduceAdd];first|done|omega|fail)|(simp (disch:=first|omega|(simp only[wm,QG,QI,uC,Nat.reduceAdd];first|done|omega|fail)|fail)only[wm,Bs,QK,QG,QI,uC,Nat.reduceAdd];done)|fail)only[go_sem,vo,Br,AP.f347,gw,rm,cz]
      · unfold vI;rw[if_neg c];dsimp only;rw[QF,hx];rfl
 obtain⟨e',s2⟩:=Iv hb hw hi hl hx hx8 hne (by omega) (by omega) hn
 have cs:aQ AP.A 347 [.aC w 0,.int .i64 b] h=some (.bJ [],(g.set id (xI (P'.set (n/8) (x|||b* 2^(n%8))))).set w [.aD id 0 (n/8+1) 1,.int .i64 ((n:Int)+1)]):=by
  refine vJ (fn:=AP.f347) (e:=e') (vs:=[]) rfl rfl rfl ?_ rfl
  have hb:AP.f347.body=.seq (at_ 0 AP.f347.body) (KX 1 AP.f347.body):=rfl
  rw[hb,ri]
  have s1':aK (aQ AP.A) bo (at_ 0 AP.f347.body) (params 0 [.aC w 0,.int .i64 b]) h=some (.normal,[(0,.aC w 0),(1,.int .i64 b)],g):=s1
  rw[s1',rY,s2]
 rw[←hP]at cs
 have ol:(vI P n b).length=n/8+1:=by rw[hP,Q1,hl]
 refine⟨_,ov',cs,⟨?_, ?_, ?_, ?_, ?_, ?_⟩, ?_, ?_, ?_, ?_⟩
 · rw[vi rfl,uV hne.symm,hw,hid,uR,←en];rfl
 · rw[pa,hid]
   exact⟨by simp [xI,ol],.inr ⟨id,by rw[ol],by rw[uV hne,vi rfl,hi];rfl,by simpa [hf]using hf2,by omega⟩⟩
 · simpa [hf]using fl
 · simp;omega
 · rw[hid];exact fun q=>hne (ud q)
 · rw[pa];exact Bf hb GJ
 · simp [hf]
 · simpa using hflx
 · intro i hi1 hi2 hi3
   have:i≠id:=by
    rcases hids with q|q
    · intro q2;exact hi3 (by rw[q,q2])
    · omega
   rw[uV hi2,uV this,hk i hi1 hi2 hi3]
 · intro j hj
   rw[hid]at hj
   obtain rfl:=ud hj
   exact hids
theorem IJ {h:H} {w:Nat} {ov:AV} {v n up N:Nat} (gw:h.get w=some [ov,.int .i64 N]) (hn:n≤up) (hu:up≤16) (hv:v<2^n) (hb:N+n≤65536):aQ AP.A 346 [.aC w 0,.int .i64 v,.int .i64 n,.int .i64 up] h=some (.bool true,h):=by
 have hp:2^n≤2^16:=QX (by omega) (by omega)
 have s1:oM .shl .i64 1 (n:Int)=some (.int .i64 ((2^n:Nat):Int)):=by
  have:=Av (a:=1) (s:=n) (by omega) (by omega)
  rwa [Nat.one_mul]at this
 refine sY (fn:=AP.f346) (e:=[(8,.bool true)]) (vs:=[.bool true]) rfl rfl rfl ?_ rfl
 have c1:(0:Int)≤(n:Int):=by omega
 have c2:(n:Int)≤(up:Int):=by omega
 have c3:(0:Int)≤(v:Int):=by omega
 have c4:(v:Int)<((2^n:Nat):Int):=by omega
 have c5:(N:Int)+(n:Int)≤65536:=by omega
 generalize 2^n=M at *
 simp (disch:=omega)only[go_sem,vo,AP.f346,s1,gw,c1,c2,c3,c4,c5]
theorem DA (w v n:Nat) (hv:v<65536) (hn:n≤16):∀(m i:Nat) (h:H) (bs:List Nat) (ov:AV),i+m=n→Wr h w bs ov→bs.length+m<1000000→
 ∃e' h' ov',Lp AP.A [0,1,17,18] AP.f335L0 [(0,.aC w 0),(1,.int .i64 v),(17,.int .i64 n),(18,.int .i64 i)] h=some (.exit 1,e',h')∧Wr h' w (bs++AR v i m) ov'∧FY h w ov h' ov'
 | 0, i, h, bs, ov, hi, wr, hb => by
   obtain rfl:i=n:=by omega
   refine⟨[(0,.aC w 0),(1,.int .i64 v),(17,.int .i64 i),(18,.int .i64 i),(19,.bool false)],h,ov,sJ ?_,by simpa [AR]using wr,FY.refl h w ov⟩
   simp (disch:=omega)only[go_sem,vo,AP.f335L0]
 | m + 1, i, h, bs, ov, hi, wr, hb => by
   have q:=Nat.div_le_self v (2^i)
   obtain⟨h1,o1,k1,wr1,f1⟩:=Ky wr (b:=v/2^i%2) (by omega) (by omega)
   obtain⟨e',h',ov',r1,r2,r3⟩:=DA w v n hv hn m (i+1) h1 _ o1 (by omega) wr1 (by simp;omega)
   have n1:((i+1:Nat):Int)=(i:Int)+1:=by omega
   have s1:=FJ (a:=v) (s:=i) (by omega)
   have a1:=Ev (n:=v/2^i) (by omega)
   rw[QS]at r2
   refine⟨e',h',ov',sK ?_ r1,r2,f1.trans r3⟩
   rw[n1]
   simp (disch:=omega)only[go_sem,vo,AP.f335L0,s1,a1,k1]
theorem xb {h:H} {w:Nat} {bs:List Nat} {ov:AV} (wr:Wr h w bs ov) (v n:Nat) (hn:n≤16) (hv:v<2^n) (hb:bs.length+n≤65536):
 ∃h' ov',aQ AP.A 335 [.aC w 0,.int .i64 v,.int .i64 n] h=some (.int .i64 0,h')∧Wr h' w (bs++vj v n) ov'∧FY h w ov h' ov':=by
 have hp:2^n≤2^16:=QX (by omega) hn
 obtain⟨e',h',ov',r1,r2,r3⟩:=DA w v n (by omega) hn n 0 h bs ov (by omega) wr (by omega)
 have r1':Lp AP.A [0,1,17,18] AP.f335L0 [(0,.aC w 0),(1,.int .i64 v),(17,.int .i64 n),(18,.int .i64 0)] h=some (.exit 1,e',h'):=r1
 clear r1
 have k:=IJ (up:=16) wr.get hn (by omega) hv hb
 refine⟨h',ov',sY (fn:=AP.f335) (e:=[(6,.int .i64 0)]) (vs:=[.int .i64 0]) rfl rfl rfl ?_ rfl,r2,r3⟩
 have k':aQ AP.A 346 [.aC w 0,.int .i64 v,.int .i64 n,.int .i64 16] h=some (.bool true,h):=k
 simp (disch:=omega)only[go_sem,vo,AP.f335,rH,r1',k']
theorem Cs (w v:Nat) (A:List AV) (hA:A[1]?=some (.int .i64 v)) (hA2:A.length=2) (c:Nat) (hv:v<65536):∀(m:Nat) (h:H) (bs:List Nat) (ov:AV),m≤15→Wr h w bs ov→bs.length+m<1000000→h.get c=some A→c≠w→ov.id?≠some c→
 ∃e' h' ov',Lp AP.A [0,3,5] AP.f352L0 [(0,.aC w 0),(3,.aC c 0),(5,.int .i64 ((m:Int)-1))] h=some (.exit 1,e',h')∧Wr h' w (bs++xw v m) ov'∧FY h w ov h' ov'
 | 0, h, bs, ov, hm, wr, hb, hc, hcw, hco => by
   refine⟨[(0,.aC w 0),(3,.aC c 0),(5,.int .i64 (-1)),(26,.bool false)],h,ov,sJ ?_,by simpa [xw]using wr,FY.refl h w ov⟩
   simp (disch:=omega)only[go_sem,vo,AP.f352L0]
 | m + 1, h, bs, ov, hm, wr, hb, hc, hcw, hco => by
   have q:=Nat.div_le_self v (2^m)
   obtain⟨h1,o1,k1,wr1,f1⟩:=Ky wr (b:=v/2^m%2) (by omega) (by omega)
   have hcl:=h.lt _ _ hc
   obtain⟨e',h',ov',r1,r2,r3⟩:=Cs w v A hA hA2 c hv m h1 _ o1 (by omega) wr1 (by simp;omega) (by rw[f1.vE c hcl hcw hco,hc]) hcw (fun q=>by
    rcases f1.ids c q with q|q
    · exact hco q
    · omega)
   have n1:((m+1:Nat):Int)-1=(m:Int):=by omega
   have s1:=FJ (a:=v) (s:=m) (by omega)
   have a1:=Ev (n:=v/2^m) (by omega)
   rw[QS]at r2
   refine⟨e',h',ov',sK ?_ r1,r2,f1.trans r3⟩
   rw[n1]
   simp (disch:=omega)only[go_sem,vo,AP.f352L0,s1,a1,k1,hc,hA,hA2]
theorem Hb {h:H} {w:Nat} {bs:List Nat} {ov:AV} (wr:Wr h w bs ov) (v n:Nat) (hn0:1≤n) (hn:n≤15) (hv:v<2^n) (hb:bs.length+n≤65536):
 ∃h' ov',aQ AP.A 352 [.aC w 0,.agg [.int .i64 n,.int .i64 v]] h=some (.int .i64 0,h')∧Wr h' w (bs++xw v n) ov'∧FY h w ov h' ov':=by
 have hp:2^n≤2^15:=QX (by omega) hn
 obtain⟨g,eg⟩:∃g,g=h.alloc [.int .i64 n,.int .i64 v]:=⟨_,rfl⟩
 have hw:=h.lt _ _ wr.get
 have frA:∀i,i<h.next→g.get i=h.get i:=fun i hi=>by rw[eg,u5 (by omega)]
 have wr1:Wr g w bs ov:=⟨by rw[frA w hw,wr.get],wr.own.mono (by rw[eg];simp) (fun i q=>frA i (wr.own.lt q).2),by rw[eg];simpa using wr.fl,by rw[eg];have:=wr.Ih;simp;omega,wr.ne,wr.GJ⟩
 have gc:g.get h.next=some [.int .i64 n,.int .i64 v]:=by rw[eg,u9 rfl]
 obtain⟨e',h',ov',r1,r2,r3⟩:=Cs w v _ rfl rfl h.next (by omega) n g bs ov hn wr1 (by omega) gc (by omega) (fun q=>by have:=(wr.own.lt q).2;omega)
 have k:aQ AP.A 346 [.aC w 0,.int .i64 v,.int .i64 n,.int .i64 15] g=some (.bool true,g):=IJ (up:=15) wr1.get hn (by omega) hv hb
 refine⟨h',ov',sY (fn:=AP.f352) (e:=[(4,.int .i64 0)]) (vs:=[.int .i64 0]) rfl rfl rfl ?_ rfl,r2,⟨by rw[r3.floor,eg];simp,by have:=r3.next;rw[eg]at this;simp at this;omega,fun i h1 h2 h3=>by rw[r3.vE i (by rw[eg];simp;omega) h2 h3,frA i h1],fun j hj=>by
  rcases r3.ids j hj with q|q
  · exact .inl q
  · rw[eg]at q;simp at q;exact .inr (by omega)⟩⟩
 have c1:¬(n:Int)<1:=by omega
 simp (disch:=omega)only[go_sem,vo,AP.f352,rH,←eg,r1,c1,gc,k]
theorem Hd {h:H} {w:Nat} {bs:List Nat} {ov:AV} (wr:Wr h w bs ov):aQ AP.A 336 [.aC w 0] h=some (.str (bytesOf (vm bs)),h):=by
 have gw:=wr.get
 have b:=Ew wr.own
 refine sY (fn:=AP.f336) (e:=[(2,.str (bytesOf (vm bs)))]) (vs:=[.str (bytesOf (vm bs))]) rfl rfl rfl ?_ rfl
 simp (disch:=omega)only[go_sem,vo,AP.f336,gw,b]
theorem Fv (bs : List Nat) : ∀ m : Nat, (bs.length + m) % 8 = 0 → m < 8 → vm (bs ++ List.replicate m 0) = vm bs := by
 have step:∀(k:Nat) (cs:List Nat),k+cs.length%8≤8→(0<k→cs.length%8≠0)→vm (cs++List.replicate k 0)=vm cs:=by
  intro k
  induction k with
  |zero=>intro cs _ _;simp
  | succ k ih =>
    intro cs h1 h2
    have hne:=h2 (by omega)
    have e:cs++List.replicate (k+1) 0=(cs++[0])++List.replicate k 0:=by simp [List.replicate_succ]
    have l1:(cs++[0]).length=cs.length+1:=by simp
    have z:vm (cs++[0])=vm cs:=by
     rw[Dw]
     unfold vI
     rw[if_neg hne]
     dsimp only
     rw[Nat.zero_mul,Nat.or_zero]
     have hl:=wS cs
     have hlt:cs.length/8<(vm cs).length:=by omega
     rw[QF,QH hlt]
     exact List.set_getElem_self hlt
    rw[e]
    by_cases c:k=0
    · subst c;simpa using z
    · rw[ih (cs++[0]) (by rw[l1];omega) (fun _=>by rw[l1];omega),z]
 intro m hm h8
 refine step m bs (by omega) (fun h=>by omega)
theorem Jf {h:H} {w:Nat} {bs:List Nat} {ov:AV} (wr:Wr h w bs ov) (m:Nat) (hm:(bs.length+m)%8=0) (h8:m<8) (hb:bs.length+m<1000):
 ∃h',aQ AP.A 334 [.aC w 0] h=some (.int .i64 0,h')∧Wr h' w (bs++List.replicate m 0) ov∧FY h w ov h' ov:=by
 have gw:=wr.get
 have pz:=Fv bs m hm h8
 have pl:=wS bs
 have ln:=wr.own.rd.len
 have e8:(8:Int)* ((vm bs).length:Nat)=((bs.length+m:Nat):Int):=by omega
 have fl:=wr.fl
 refine⟨h.set w [ov,.int .i64 (bs.length+m:Nat)],sY (fn:=AP.f334) (e:=[(2,.int .i64 0)]) (vs:=[.int .i64 0]) rfl rfl rfl ?_ rfl,⟨by rw[vi rfl,gw];simp, ?_,by simpa using fl,by simpa using wr.Ih,wr.ne,by rw[pz];exact wr.GJ⟩,⟨by simp,by simp,fun i _ h2 _=>uV h2,fun j hj=>.inl hj⟩⟩
 · have mb:((bs.length+m:Nat):Int)<1000:=by omega
   generalize ((bs.length+m:Nat):Int)=M at *
   have M0:0≤M:=by omega
   clear pz
   simp (disch:=omega)only[go_sem,vo,AP.f334,gw,ln,e8,fl]
 · rw[pz];exact wr.own.mono (by simp) fun j hj=>uV (fun q=>wr.ne (by rw[hj,q]))
theorem GH {h:H} (hf:h.floor=h.next) (k:Nat) (hk:k<4):∃h' ov',aQ AP.A 333 [.int .i64 k] h=some (.aC h.next 0,h')∧WX h h' h.next (vj 1 1++vj k 2) ov'∧h'.floor=h.floor:=by
 have x0:=JK (h:=h) (by omega)
 obtain⟨h1,o1,k1,w1,f1⟩:=xb x0.wr 1 1 (by omega) (by omega) (by simp)
 have x1:=x0.step w1 f1
 obtain⟨h2,o2,k2,w2,f2⟩:=xb x1.wr k 2 (by omega) (by omega) (by simp [vj,vt])
 have x2:=x1.step w2 f2
 have kn:aQ AP.A 345 [] h=some (.aC h.next 0,h.alloc [.aO,.int .i64 0]):=by
  refine sY (fn:=AP.f345) (e:=[(0,.aC h.next 0)]) (vs:=[.aC h.next 0]) rfl rfl rfl ?_ rfl
  simp (disch:=omega)only[go_sem,vo,AP.f345]
 refine⟨h2,o2,sY (fn:=AP.f333) (e:=[(2,.aC h.next 0)]) (vs:=[.aC h.next 0]) rfl rfl rfl ?_ rfl, ?_,by rw[f2.floor,f1.floor];simp⟩
 · clear x0 x1 x2
   have k1':aQ AP.A 335 [.aC h.next 0,.int .i64 1,.int .i64 1] (h.alloc [.aO,.int .i64 0])=some (.int .i64 0,h1):=k1
   have k2':aQ AP.A 335 [.aC h.next 0,.int .i64 k,.int .i64 2] h1=some (.int .i64 0,h2):=k2
   simp (disch:=omega)only[go_sem,vo,AP.f333,kn,k1',k2']
 · simpa using x2
theorem L9 {F:Nat→Option (Nat×Nat)} {k to:Nat} (h:u7 (F to)≤k):yg F k to=to:=by
 cases to with
 |zero=>rfl
 |succ t=>rw[yg,if_pos h]
theorem Dl {F : Nat → Option (Nat × Nat)} {fk : Nat} (hF : ∀ (g : H) (s : Nat), s < 1000000 → aQ AP.A fk [.int .i64 s] g = some (CP (F s), g)) (k to : Nat) (hk : k < 1000000) (hto : to < 1000) (hl : u7 (F to) ≤ k) (g : H) (id : Nat) (hf : g.floor ≤ id) (hg : g.get id = some [.int .i64 0, .int .i64 0, .int .i64 0]) : ∀ n : Nat, n < 1000 → (∀ s, to ≤ s → s ≤ to + n → ∃ a b, F s = some (a, b) ∧ a < 1000000) →
 (yg F k (to+n)=to∧Lp AP.A [0,2,3,8,9] AP.f361L0 [(0,.int .i64 k),(2,.int .i64 to),(3,.fn fk [] []),(8,.aC id 0),(9,.int .i64 (to+n:Nat))] g=some (.exit 0,[(0,.int .i64 k),(2,.int .i64 to),(3,.fn fk [] []),(8,.aC id 0),(9,.int .i64 to),(16,.bool false)],g))∨
 (yg F k (to+n)≠to∧Lp AP.A [0,2,3,8,9] AP.f361L0 [(0,.int .i64 k),(2,.int .i64 to),(3,.fn fk [] []),(8,.aC id 0),(9,.int .i64 (to+n:Nat))] g=some (.ret,[(8,.aC id 0)],g.set id [.int .i64 (yg F k (to+n):Nat),.int .i64 (vU (F (yg F k (to+n))):Nat),.int .i64 ((k-u7 (F (yg F k (to+n))):Nat):Int)]))
 | 0, _, _ => by
   refine .inl ⟨L9 hl,sJ ?_⟩
   simp (disch:=omega)only[go_sem,vo,AP.f361L0]
 | n + 1, hn, hs => by
   obtain⟨a,b,hab,ha⟩:=hs (to+(n+1)) (by omega) (by omega)
   have kk:=fun g=>hF g (to+(n+1)) (by omega)
   rw[hab]at kk
   simp only[I,CP]at kk
   have la:u7 (F (to+(n+1)))=a:=by rw[hab];rfl
   have lb:vU (F (to+(n+1)))=b:=by rw[hab];rfl
   have c0:(to:Int)<((to+(n+1):Nat):Int):=by omega
   have ed:yg F k (to+(n+1))=if a≤k then to+(n+1)else yg F k (to+n):=by rw[←uu,yg,←la];rfl
   by_cases c1:a≤k
   · rw[if_pos c1]at ed
     rw[ed,la,lb]
     refine .inr ⟨by omega,td ?_⟩
     have n1:((k-a:Nat):Int)=(k:Int)-(a:Int):=by omega
     have c2:(a:Int)≤(k:Int):=by omega
     have sb:((to+(n+1):Nat):Int)<1000000:=by omega
     rw[n1]
     generalize ((to+(n+1):Nat):Int)=s at *
     clear hs hF
     simp (disch:=first|omega|(simp only[wm,QG,QI,uC,Nat.reduceAdd];first|done|omega|fail)|(simp (disch:=first|omega|(simp only[wm,QG,QI,uC,Nat.reduceAdd];first|done|omega|fail)|fail)only[wm,Bs,QK,QG,QI,uC,Nat.reduceAdd];done)|fail)only[go_sem,vo,Br,AP.f361L0,c0,kk,c2,hg]
   · rw[if_neg c1]at ed
     rw[ed]
     have n1:((to+(n+1):Nat):Int)-1=((to+n:Nat):Int):=by omega
     have c2:¬(a:Int)≤(k:Int):=by omega
     have st:aK (aQ AP.A) bo AP.f361L0 (ax [(0,.int .i64 k),(2,.int .i64 to),(3,.fn fk [] []),(8,.aC id 0),(9,.int .i64 (to+(n+1):Nat))] [0,2,3,8,9]) g=some (.normal,[(0,.int .i64 k),(2,.int .i64 to),(3,.fn fk [] []),(8,.aC id 0),(9,.int .i64 (to+n:Nat))],g):=by
      rw[←n1]
      have sb:((to+(n+1):Nat):Int)<1000000:=by omega
      have sb0:0≤((to+(n+1):Nat):Int):=by omega
      clear n1
      generalize ((to+(n+1):Nat):Int)=s at *
      clear hs hF
      simp (disch:=first|omega|(simp only[wm,QG,QI,uC,Nat.reduceAdd];first|done|omega|fail)|(simp (disch:=first|omega|(simp only[wm,QG,QI,uC,Nat.reduceAdd];first|done|omega|fail)|fail)only[wm,Bs,QK,QG,QI,uC,Nat.reduceAdd];done)|fail)only[go_sem,vo,Br,AP.f361L0,c0,kk,c2,hg]
     rcases Dl hF k to hk hto hl g id hf hg n (by omega) (fun s h1 h2=>hs s h1 (by omega))with ⟨e,L⟩|⟨e,L⟩
     · exact .inl ⟨e,sK st L⟩
     · exact .inr ⟨e,sK st L⟩
theorem I0 {F:Nat→Option (Nat×Nat)} {fk:Nat} (hF:∀(g:H) (s:Nat),s<1000000→aQ AP.A fk [.int .i64 s] g=some (CP (F s),g)) (k to n:Nat) (hk:k<1000000) (hto:to<1000) (hl:u7 (F to)≤k) (hn:n<1000) (hs:∀s,to≤s→s≤to+n→∃a b,F s=some (a,b)∧a<1000000) (hz:yg F k (to+n)=to→vU (F to)=0∧k=u7 (F to)) (h:H):
 aQ AP.A 361 [.int .i64 k,.int .i64 (to+n:Nat),.int .i64 to,.fn fk [] []] h=some (.agg [.int .i64 (yg F k (to+n):Nat),.int .i64 (vU (F (yg F k (to+n))):Nat),.int .i64 ((k-u7 (F (yg F k (to+n))):Nat):Int)],h):=by
 rcases Dl hF k to hk hto hl (h.dG.alloc [.int .i64 0,.int .i64 0,.int .i64 0]) h.next (by simp) (by rw[u9 (by simp)]) n hn hs with ⟨e,L⟩|⟨e,L⟩
 · obtain⟨z1,z2⟩:=hz e
   rw[e,z1,←z2,Nat.sub_self]
   refine tB (fn:=AP.f361) (h2:=(h.dG.alloc [.int .i64 0,.int .i64 0,.int .i64 0]).set h.next [.int .i64 to,.int .i64 0,.int .i64 0]) (e:=[(8,.aC h.next 0)]) (vs:=[.agg [.int .i64 to,.int .i64 0,.int .i64 0]]) rfl rfl rfl ?_ ?_ ?_
   · clear hs hF
     simp (disch:=first|omega|(simp only[wm,QG,QI,uC,Nat.reduceAdd];first|done|omega|fail)|(simp (disch:=first|omega|(simp only[wm,QG,QI,uC,Nat.reduceAdd];first|done|omega|fail)|fail)only[wm,Bs,QK,QG,QI,uC,Nat.reduceAdd];done)|fail)only[go_sem,vo,Br,AP.f361,rH,L]
   · simp (disch:=first|omega|(simp only[wm,QG,QI,uC,Nat.reduceAdd];first|done|omega|fail)|(simp (disch:=first|omega|(simp only[wm,QG,QI,uC,Nat.reduceAdd];first|done|omega|fail)|fail)only[wm,Bs,QK,QG,QI,uC,Nat.reduceAdd];done)|fail)only[go_sem,vo,Br,AP.f361,cm,mO];rfl
   · rfl
 · generalize yg F k (to+n)=S at *
   generalize vU (F S)=B at *
   generalize k-u7 (F S)=V at *
   refine tB (fn:=AP.f361) (h2:=(h.dG.alloc [.int .i64 0,.int .i64 0,.int .i64 0]).set h.next [.int .i64 S,.int .i64 B,.int .i64 V]) (e:=[(8,.aC h.next 0)]) (vs:=[.agg [.int .i64 S,.int .i64 B,.int .i64 V]]) rfl rfl rfl ?_ ?_ ?_
   · clear hs hF
     simp (disch:=first|omega|(simp only[wm,QG,QI,uC,Nat.reduceAdd];first|done|omega|fail)|(simp (disch:=first|omega|(simp only[wm,QG,QI,uC,Nat.reduceAdd];first|done|omega|fail)|fail)only[wm,Bs,QK,QG,QI,uC,Nat.reduceAdd];done)|fail)only[go_sem,vo,Br,AP.f361,rH,L]
   · simp (disch:=first|omega|(simp only[wm,QG,QI,uC,Nat.reduceAdd];first|done|omega|fail)|(simp (disch:=first|omega|(simp only[wm,QG,QI,uC,Nat.reduceAdd];first|done|omega|fail)|fail)only[wm,Bs,QK,QG,QI,uC,Nat.reduceAdd];done)|fail)only[go_sem,vo,Br,AP.f361,cm,mO];rfl
   · rfl
theorem Nk (h:H) (k:Nat) (h1:3≤k) (h2:k≤258):aQ AP.A 355 [.int .i64 k] h=some (.bJ [.agg [.int .i64 (wH k:Nat),.int .i64 (yL k:Nat),.int .i64 (zF k:Nat)],.int .i64 0],h):=by
 by_cases c:k=258
 · subst c
   have e1:wH 258=285:=by decide
   have e2:yL 258=0:=by decide
   have e3:zF 258=0:=by decide
   rw[e1,e2,e3]
   refine tB (fn:=AP.f355) (h2:=(h.dG.alloc [.int .i64 0,.int .i64 0,.int .i64 0]).set h.next [.int .i64 285,.int .i64 0,.int .i64 0]) (e:=[(2,.aC h.next 0),(3,.int .i64 0)]) (vs:=[.agg [.int .i64 285,.int .i64 0,.int .i64 0],.int .i64 0]) rfl rfl rfl ?_ ?_ ?_
   · have a1:¬((258:Nat):Int)<3:=by omega
     have a2:¬(258:Int)<((258:Nat):Int):=by omega
     have a3:(((258:Nat):Int)==258)=true:=by decide
     generalize ((258:Nat):Int)=K at *
     simp (disch:=first|omega|(simp only[wm,QG,QI,uC,Nat.reduceAdd];first|done|omega|fail)|(simp (disch:=first|omega|(simp only[wm,QG,QI,uC,Nat.reduceAdd];first|done|omega|fail)|fail)only[wm,Bs,QK,QG,QI,uC,Nat.reduceAdd];done)|fail)only[go_sem,vo,Br,AP.f355,a1,a2,a3]
   · simp (disch:=first|omega|(simp only[wm,QG,QI,uC,Nat.reduceAdd];first|done|omega|fail)|(simp (disch:=first|omega|(simp only[wm,QG,QI,uC,Nat.reduceAdd];first|done|omega|fail)|fail)only[wm,Bs,QK,QG,QI,uC,Nat.reduceAdd];done)|fail)only[go_sem,vo,Br,AP.f355,cm,mO];rfl
   · rfl
 · have e:yg lenOf k 285=yg lenOf k 284:=by
    rw[yg,if_neg]
    have:u7 (lenOf (284+1))=258:=rfl
    omega
   have sp:=xp h1 h2
   have hz:yg lenOf k (257+27)=257→vU (lenOf 257)=0∧k=u7 (lenOf 257):=fun q=>by
    have q':wH k=257:=e.trans q
    rw[q']at sp
    have b1:vU (lenOf 257)=0:=rfl
    have l1:u7 (lenOf 257)=3:=rfl
    rw[l1,b1]at sp
    exact⟨rfl,by rw[l1];omega⟩
   have r:=I0 (F:=lenOf) (fk:=74) (fun g s hs=>G3 g s hs) k 257 27 (by omega) (by omega) (show u7 (lenOf 257)≤k from h1) (by omega) (fun s q1 q2=>by
    obtain⟨a,b,hab⟩:=zE q1 (by omega)
    have:=Ci hab
    exact⟨a,b,hab,by omega⟩) hz (h.dG.alloc [.int .i64 0,.int .i64 0,.int .i64 0])
   have el:yg lenOf k (257+27)=wH k:=e.symm
   rw[el]at r
   have r':aQ AP.A 361 [.int .i64 k,.int .i64 284,.int .i64 257,.fn 74 [] []] (h.dG.alloc [.int .i64 0,.int .i64 0,.int .i64 0])=some (.agg [.int .i64 (wH k:Nat),.int .i64 (yL k:Nat),.int .i64 (zF k:Nat)],h.dG.alloc [.int .i64 0,.int .i64 0,.int .i64 0]):=r
   clear r
   generalize wH k=S at *
   generalize yL k=B at *
   generalize zF k=V at *
   refine tB (fn:=AP.f355) (h2:=(h.dG.alloc [.int .i64 0,.int .i64 0,.int .i64 0]).set h.next [.int .i64 S,.int .i64 B,.int .i64 V]) (e:=[(2,.aC h.next 0),(3,.int .i64 0)]) (vs:=[.agg [.int .i64 S,.int .i64 B,.int .i64 V],.int .i64 0]) rfl rfl rfl ?_ ?_ ?_
   · have a1:¬(k:Int)<3:=by omega
     have a2:¬(258:Int)<(k:Int):=by omega
     have a3:((k:Int)==258)=false:=by simp;omega
     clear sp hz
     simp (disch:=first|omega|(simp only[wm,QG,QI,uC,Nat.reduceAdd];first|done|omega|fail)|(simp (disch:=first|omega|(simp only[wm,QG,QI,uC,Nat.reduceAdd];first|done|omega|fail)|fail)only[wm,Bs,QK,QG,QI,uC,Nat.reduceAdd];done)|fail)only[go_sem,vo,Br,AP.f355,a1,a2,a3,r']
   · simp (disch:=first|omega|(simp only[wm,QG,QI,uC,Nat.reduceAdd];first|done|omega|fail)|(simp (disch:=first|omega|(simp only[wm,QG,QI,uC,Nat.reduceAdd];first|done|omega|fail)|fail)only[wm,Bs,QK,QG,QI,uC,Nat.reduceAdd];done)|fail)only[go_sem,vo,Br,AP.f355,cm,mO];rfl
   · rfl
theorem Kj (h:H) (k:Nat) (h1:1≤k) (h2:k≤32768):aQ AP.A 356 [.int .i64 k] h=some (.bJ [.agg [.int .i64 (w9 k:Nat),.int .i64 (zm k:Nat),.int .i64 (Ad k:Nat)],.int .i64 0],h):=by
 have sp:=xk h1 h2
 have hz:yg vq k (0+29)=0→vU (vq 0)=0∧k=u7 (vq 0):=fun q=>by
  have q':w9 k=0:=q
  rw[q']at sp
  have b1:vU (vq 0)=0:=rfl
  have l1:u7 (vq 0)=1:=rfl
  rw[l1,b1]at sp
  exact⟨rfl,by rw[l1];omega⟩
 have r:=I0 (F:=vq) (fk:=75) (fun g s hs=>ES g s hs) k 0 29 (by omega) (by omega) (show u7 (vq 0)≤k from h1) (by omega) (fun s q1 q2=>by
  obtain⟨a,b,hab⟩:=yI (s:=s) (by omega)
  have:=AB hab
  exact⟨a,b,hab,by omega⟩) hz (h.dG.alloc [.int .i64 0,.int .i64 0,.int .i64 0])
 have r':aQ AP.A 361 [.int .i64 k,.int .i64 29,.int .i64 0,.fn 75 [] []] (h.dG.alloc [.int .i64 0,.int .i64 0,.int .i64 0])=some (.agg [.int .i64 (w9 k:Nat),.int .i64 (zm k:Nat),.int .i64 (Ad k:Nat)],h.dG.alloc [.int .i64 0,.int .i64 0,.int .i64 0]):=r
 clear r
 generalize w9 k=S at *
 generalize zm k=B at *
 generalize Ad k=V at *
 refine tB (fn:=AP.f356) (h2:=(h.dG.alloc [.int .i64 0,.int .i64 0,.int .i64 0]).set h.next [.int .i64 S,.int .i64 B,.int .i64 V]) (e:=[(2,.aC h.next 0),(3,.int .i64 0)]) (vs:=[.agg [.int .i64 S,.int .i64 B,.int .i64 V],.int .i64 0]) rfl rfl rfl ?_ ?_ ?_
 · have a1:¬(k:Int)<1:=by omega
   have a2:¬(32768:Int)<(k:Int):=by omega
   clear sp hz
   simp (disch:=first|omega|(simp only[wm,QG,QI,uC,Nat.reduceAdd];first|done|omega|fail)|(simp (disch:=first|omega|(simp only[wm,QG,QI,uC,Nat.reduceAdd];first|done|omega|fail)|fail)only[wm,Bs,QK,QG,QI,uC,Nat.reduceAdd];done)|fail)only[go_sem,vo,Br,AP.f356,a1,a2,r']
 · simp (disch:=first|omega|(simp only[wm,QG,QI,uC,Nat.reduceAdd];first|done|omega|fail)|(simp (disch:=first|omega|(simp only[wm,QG,QI,uC,Nat.reduceAdd];first|done|omega|fail)|fail)only[wm,Bs,QK,QG,QI,uC,Nat.reduceAdd];done)|fail)only[go_sem,vo,Br,AP.f356,cm,mO];rfl
 · rfl
theorem FR (h:H) (x d:Int):aQ AP.A 349 [.agg [.int .i64 x,.int .i64 0,.int .i64 d]] h=some (.bJ [.agg [.int .i64 x,.int .i64 0,.int .i64 0],.agg [.int .i64 0,.int .i64 0,.int .i64 0],.bool false],h):=by
 refine tB (fn:=AP.f349) (h2:=(((((h.dG.alloc [.int .i64 x,.int .i64 0,.int .i64 d]).alloc [.int .i64 0,.int .i64 0,.int .i64 0]).alloc [.int .i64 0,.int .i64 0,.int .i64 0]).set (h.next+1) [.int .i64 x,.int .i64 0,.int .i64 0]).set (h.next+2) [.int .i64 0,.int .i64 0,.int .i64 0])) (e:=[(2,.aC (h.next+1) 0),(3,.aC (h.next+2) 0),(4,.bool false)]) (vs:=[.agg [.int .i64 x,.int .i64 0,.int .i64 0],.agg [.int .i64 0,.int .i64 0,.int .i64 0],.bool false]) rfl rfl rfl ?_ ?_ ?_
 · simp (disch:=first|omega|(simp only[wm,QG,QI,uC,Nat.reduceAdd];first|done|omega|fail)|(simp (disch:=first|omega|(simp only[wm,QG,QI,uC,Nat.reduceAdd];first|done|omega|fail)|fail)only[wm,Bs,QK,QG,QI,uC,Nat.reduceAdd];done)|fail)only[go_sem,vo,Br,AP.f349]
 · simp (disch:=first|omega|(simp only[wm,QG,QI,uC,Nat.reduceAdd];first|done|omega|fail)|(simp (disch:=first|omega|(simp only[wm,QG,QI,uC,Nat.reduceAdd];first|done|omega|fail)|fail)only[wm,Bs,QK,QG,QI,uC,Nat.reduceAdd];done)|fail)only[go_sem,vo,Br,AP.f349,cm,mO];rfl
 · rfl
theorem DK (h:H) (k d:Nat) (h1:3≤k) (h2:k≤258) (d1:1≤d) (d2:d≤32768):aQ AP.A 349 [.agg [.int .i64 0,.int .i64 k,.int .i64 d]] h=some (.bJ [.agg [.int .i64 (wH k:Nat),.int .i64 (yL k:Nat),.int .i64 (zF k:Nat)],.agg [.int .i64 (w9 d:Nat),.int .i64 (zm d:Nat),.int .i64 (Ad d:Nat)],.bool true],h):=by
 have k1:=fun g=>Nk g k h1 h2
 have k2:=fun g=>Kj g d d1 d2
 have c0:((k:Int)==0)=false:=by simp;omega
 generalize wH k=S at *
 generalize yL k=B at *
 generalize zF k=V at *
 generalize w9 d=S' at *
 generalize zm d=B' at *
 generalize Ad d=V' at *
 obtain⟨g,eg⟩:∃g,g=((((((((h.dG.alloc [.int .i64 0,.int .i64 k,.int .i64 d]).alloc [.int .i64 0,.int .i64 0,.int .i64 0]).alloc [.int .i64 0,.int .i64 0,.int .i64 0]).alloc [.int .i64 0,.int .i64 0,.int .i64 0]).set (h.next+3) [.int .i64 S,.int .i64 B,.int .i64 V]).alloc [.int .i64 0,.int .i64 0,.int .i64 0]).set (h.next+4) [.int .i64 S',.int .i64 B',.int .i64 V']).set (h.next+1) [.int .i64 S,.int .i64 B,.int .i64 V]).set (h.next+2) [.int .i64 S',.int .i64 B',.int .i64 V']:=⟨_,rfl⟩
 refine tB (fn:=AP.f349) (h2:=g) (e:=[(2,.aC (h.next+1) 0),(3,.aC (h.next+2) 0),(4,.bool true)]) (vs:=[.agg [.int .i64 S,.int .i64 B,.int .i64 V],.agg [.int .i64 S',.int .i64 B',.int .i64 V'],.bool true]) rfl rfl rfl ?_ ?_ ?_
 · rw[eg]
   simp (disch:=first|omega|(simp only[wm,QG,QI,uC,Nat.reduceAdd];first|done|omega|fail)|(simp (disch:=first|omega|(simp only[wm,QG,QI,uC,Nat.reduceAdd];first|done|omega|fail)|fail)only[wm,Bs,QK,QG,QI,uC,Nat.reduceAdd];done)|fail)only[go_sem,vo,Br,AP.f349,c0,k1,k2]
 · rw[eg]
   simp (disch:=first|omega|(simp only[wm,QG,QI,uC,Nat.reduceAdd];first|done|omega|fail)|(simp (disch:=first|omega|(simp only[wm,QG,QI,uC,Nat.reduceAdd];first|done|omega|fail)|fail)only[wm,Bs,QK,QG,QI,uC,Nat.reduceAdd];done)|fail)only[go_sem,vo,Br,AP.f349,cm,mO];rfl
 · rfl
theorem Gt {h0 h:H} {w:Nat} {bs:List Nat} {ov lv:AV} {E:List (Int×Int)} (rl:xH 2 h0 lv E.length (E.flatMap v9)) (x:WX h0 h w bs ov) (s b v:Nat) (o:zU E s) (hb:b≤16) (hv:v<2^b) (hl:bs.length+31≤65536):
 ∃h' ov',aQ AP.A 350 [.aC w 0,lv,.agg [.int .i64 s,.int .i64 b,.int .i64 v]] h=some (.bJ [],h')∧WX h0 h' w (bs++(u1 E s++vj v b)) ov'∧h.next≤h'.next∧(∀i,i<h.next→i≠w→ov.id?≠some i→h'.get i=h.get i)∧(∀j,ov'.id?=some j→ov.id?=some j∨h.next≤j):=by
 obtain⟨g,eg⟩:∃g,g=h.alloc [.int .i64 s,.int .i64 b,.int .i64 v]:=⟨_,rfl⟩
 have x1:WX h0 g w bs ov:=x.turn (by rw[eg];simp) (by rw[eg];simp) fun i hi=>by rw[eg,u5 (by omega)]
 have gg:g.get h.next=some [.int .i64 s,.int .i64 b,.int .i64 v]:=by rw[eg,u9 rfl]
 have hw:=h.lt _ _ x.wr.get
 have hon:ov.id?≠some h.next:=fun q=>by have:=(x.wr.own.lt q).2;omega
 obtain⟨le,l1,l2⟩:=rl.KH
 obtain⟨n,c,q0,q1,q2,q3,q4⟩:=o.bits
 have e1:=l1 s ⟨by omega,by have:=o.lt;omega⟩
 have e2:=l2 g x1.ext _ _ q0
 obtain⟨h2,o2,k1,k2,k3⟩:=Hb x1.wr c n q1 q2 q3 (by omega)
 have x2:=x1.step k2 k3
 have g2:h2.get h.next=some [.int .i64 s,.int .i64 b,.int .i64 v]:=(k3.vE h.next (by rw[eg];simp) (by omega) hon).trans gg
 obtain⟨h3,o3,k4,k5,k6⟩:=xb x2.wr v b hb hv (by simp [vP];omega)
 have x3:=x2.step k5 k6
 refine⟨h3,o3,vJ (fn:=AP.f350) (e:=[]) (vs:=[]) rfl rfl rfl ?_ rfl,by rw[q4,←QS];exact x3, ?_,fun i hi hiw hio=> ?_,fun j hj=> ?_⟩
 · clear rl l1 l2 x x1 x2 x3 k2 k3 k5 k6 q4
   simp (disch:=omega)only[go_sem,vo,AP.f350,←eg,gg,e1,e2,k1,g2,k4]
 · have a1:=k3.next
   have a2:=k6.next
   rw[eg]at a1;simp at a1;omega
 · have a1:=k3.next
   have e:g.get i=h.get i:=by rw[eg,u5 (by omega)]
   have gn:g.next=h.next+1:=by rw[eg];simp
   rw[k6.vE i (by omega) hiw (fun q=>by
    rcases k3.ids i q with z|z
    · exact hio z
    · omega),k3.vE i (by omega) hiw hio,e]
 · have gn:g.next=h.next+1:=by rw[eg];simp
   rcases k6.ids j hj with z|z
   · rcases k3.ids j z with y|y
     · exact .inl y
     · exact .inr (by omega)
   · have:=k3.next;exact .inr (by omega)
theorem H8 {v lv dv:AV} {ts:List Tok} {E D:List (Int×Int)} (hn:ts.length<1000000) (h0:H) (rd:xH 3 h0 v ts.length (vB ts)) (rl:xH 2 h0 lv E.length (E.flatMap v9)) (rx:xH 2 h0 dv D.length (D.flatMap v9)) (w i:Nat) (t:Tok) (ht:ts[i]?=some t) (o:G7 E D t) (tk:xe t) (tl:t.len≠0→t.lit=0) (h:H) (bs:List Nat) (ov:AV) (x:WX h0 h w bs ov) (hb:bs.length+48≤65000):
 ∃h' ov',aK (aQ AP.A) bo AP.f339L0 (ax [(0,.aC w 0),(2,lv),(3,dv),(14,v),(15,.int .i64 ts.length),(16,.int .i64 i)] [0,2,3,14,15,16]) h=some (.normal,[(0,.aC w 0),(2,lv),(3,dv),(14,v),(15,.int .i64 ts.length),(16,.int .i64 (i+1:Nat))],h')∧WX h0 h' w (bs++vz E D t) ov':=by
 obtain⟨ad,a1,a2,a3⟩:=rd.Ny
 have hi:i<ts.length:=(um.1 ht).1
 have hI:(0:Int)≤(i:Int)∧(i:Int)<ts.length:=⟨by omega,by omega⟩
 have b1:=a1 _ hI
 obtain⟨_,_,_,b2⟩:=a3 h x.ext _ _ ht
 have n1:((i+1:Nat):Int)=(i:Int)+1:=by omega
 have ci:(i:Int)<(ts.length:Int):=hI.2
 have step:∀(S B V S' B' V':Nat) (cp:Bool),(∀g:H,aQ AP.A 349 [.agg [.int .i64 t.lit,.int .i64 t.len,.int .i64 t.vD]] g=some (.bJ [.agg [.int .i64 S,.int .i64 B,.int .i64 V],.agg [.int .i64 S',.int .i64 B',.int .i64 V'],.bool cp],g))→zU E S→B≤5→V<2^B→(cp=true→zU D S'∧B'≤13∧V'<2^B')→
  ∃h' ov',aK (aQ AP.A) bo AP.f339L0 (ax [(0,.aC w 0),(2,lv),(3,dv),(14,v),(15,.int .i64 ts.length),(16,.int .i64 i)] [0,2,3,14,15,16]) h=some (.normal,[(0,.aC w 0),(2,lv),(3,dv),(14,v),(15,.int .i64 ts.length),(16,.int .i64 (i+1:Nat))],h')∧WX h0 h' w (bs++((u1 E S++vj V B)++if cp=true then u1 D S'++vj V' B' else [])) ov':=by
  intro S B V S' B' V' cp ks oS hB hV hcp
  obtain⟨g1,eg1⟩:∃g,g=(h.alloc [.int .i64 0,.int .i64 0,.int .i64 0]).set h.next [.int .i64 t.lit,.int .i64 t.len,.int .i64 t.vD]:=⟨_,rfl⟩
  obtain⟨g2,eg2⟩:∃g,g=(((g1.alloc [.int .i64 0,.int .i64 0,.int .i64 0]).alloc [.int .i64 0,.int .i64 0,.int .i64 0]).set g1.next [.int .i64 S,.int .i64 B,.int .i64 V]).set (g1.next+1) [.int .i64 S',.int .i64 B',.int .i64 V']:=⟨_,rfl⟩
  have n1':g1.next=h.next+1:=by rw[eg1];simp
  have n2':g2.next=h.next+3:=by rw[eg2];simp;omega
  have fl1:h.floor≤h.next:=x.wr.Ih
  have flg:g1.floor≤g1.next:=by rw[n1',eg1];simp;omega
  have gt1:g1.get h.next=some [.int .i64 t.lit,.int .i64 t.len,.int .i64 t.vD]:=by rw[eg1,vi rfl,u9 rfl];rfl
  have gk1:∀j,j<h.next→g1.get j=h.get j:=fun j hj=>by rw[eg1,uV (by omega),u5 (by omega)]
  have gk2:∀j,j<h.next→g2.get j=h.get j:=fun j hj=>by rw[eg2,uV (by omega),uV (by omega),u5 (by simp;omega),u5 (by omega),gk1 j hj]
  have x2:WX h0 g2 w bs ov:=x.turn (by rw[eg2,eg1];simp) (by omega) gk2
  have ga:g2.get g1.next=some [.int .i64 S,.int .i64 B,.int .i64 V]:=by rw[eg2,uV (by omega),vi rfl,u5 (by simp),u9 rfl];rfl
  have gb:g2.get (g1.next+1)=some [.int .i64 S',.int .i64 B',.int .i64 V']:=by rw[eg2,vi rfl,uV (by omega),u9 (by simp)];rfl
  have hA:((g1.alloc [.int .i64 0,.int .i64 0,.int .i64 0]).alloc [.int .i64 0,.int .i64 0,.int .i64 0]).get g1.next=some [.int .i64 0,.int .i64 0,.int .i64 0]:=by rw[u5 (by simp),u9 rfl]
  have hB:(((g1.alloc [.int .i64 0,.int .i64 0,.int .i64 0]).alloc [.int .i64 0,.int .i64 0,.int .i64 0]).set g1.next [.int .i64 S,.int .i64 B,.int .i64 V]).get (g1.next+1)=some [.int .i64 0,.int .i64 0,.int .i64 0]:=by rw[uV (by omega),u9 (by simp)]
  have hw:=h.lt _ _ x.wr.get
  have hov:∀j,h.next≤j→ov.id?≠some j:=fun j hj q=>by have:=(x.wr.own.lt q).2;omega
  obtain⟨h3,o3,k3,x3,nx3,kp3,id3⟩:=Gt rl x2 S B V oS (by omega) hV (by omega)
  have gb3:h3.get (g1.next+1)=some [.int .i64 S',.int .i64 B',.int .i64 V']:=(kp3 _ (by omega) (by omega) (hov _ (by omega))).trans gb
  have cl:(u1 E S++vj V B).length≤20:=by
   obtain⟨n,c,q0,q1,q2,q3,q4⟩:=oS.bits
   rw[q4];simp [vP,vj,vt];omega
  cases cp with
  | false =>
    refine⟨h3,o3, ?_,by simpa using x3⟩
    rw[n1]
    clear rd rl rx a1 a2 a3 x x2 x3 kp3 id3 gk1 gk2 hov hcp
    simp (disch:=omega)only[go_sem,vo,AP.f339L0,ci,b1,b2,←eg1,gt1,ks,hA,hB,←eg2,ga,k3,JQ,uE,Rl,QZ]
  | true =>
    obtain⟨oS',hB',hV'⟩:=hcp rfl
    obtain⟨h4,o4,k4,x4,_,_,_⟩:=Gt rx x3 S' B' V' oS' (by omega) hV' (by rw[uR];omega)
    refine⟨h4,o4, ?_,by rw[if_pos rfl,←QS];exact x4⟩
    rw[n1]
    clear rd rl rx a1 a2 a3 x x2 x3 x4 kp3 id3 gk1 gk2 hov hcp
    simp (disch:=omega)only[go_sem,vo,AP.f339L0,ci,b1,b2,←eg1,gt1,ks,hA,hB,←eg2,ga,k3,gb3,k4,JQ,uE,Rl,QZ]
 rcases o with ⟨c0,h2,h3⟩|⟨h1,h2,h3,h4,h5,h6⟩
 · obtain⟨y,hy⟩:∃y:Nat,t.lit=y:=QN h2
   have yt:t.lit.toNat=y:=by omega
   rw[yt]at h3
   obtain⟨h',ov',k,xx⟩:=step y 0 0 0 0 0 false (fun g=>by
    rw[hy,c0];exact FR g y t.vD) h3 (by omega) (by omega) (fun q=>by cases q)
   refine⟨h',ov',k, ?_⟩
   rw[vz,if_pos c0,yt]
   simpa [vj,AR]using xx
 · obtain⟨L,hL⟩:∃y:Nat,t.len=y:=QN (by omega)
   obtain⟨K,hK⟩:∃y:Nat,t.vD=y:=QN (by omega)
   have Lt:t.len.toNat=L:=by omega
   have Kt:t.vD.toNat=K:=by omega
   rw[Lt]at h5
   rw[Kt]at h6
   have lb:=D4 (k:=L) (by omega) (by omega)
   have db:=DV (k:=K) (by omega) (by omega)
   obtain⟨h',ov',k,xx⟩:=step (wH L) (yL L) (zF L) (w9 K) (zm K) (Ad K) true (fun g=>by
    rw[tl (by omega),hL,hK];exact DK g L K (by omega) (by omega) (by omega) (by omega)) h5 lb.1 lb.2 (fun _=>⟨h6,db.1,db.2⟩)
   refine⟨h',ov',k, ?_⟩
   rw[vz,if_neg (by omega),Lt,Kt]
   simpa [QS]using xx
theorem DC {v lv dv:AV} {ts:List Tok} {E D:List (Int×Int)} (hn:ts.length<1000000) (h0:H) (rd:xH 3 h0 v ts.length (vB ts)) (rl:xH 2 h0 lv E.length (E.flatMap v9)) (rx:xH 2 h0 dv D.length (D.flatMap v9)) (ok:∀t∈ts,G7 E D t∧xe t∧(t.len≠0→t.lit=0)) (w:Nat):∀(q p:List Tok) (bs:List Nat) (h:H) (ov:AV),ts=p++q→WX h0 h w bs ov→bs.length+48* q.length≤65000→
 ∃h' ov',Lp AP.A [0,2,3,14,15,16] AP.f339L0 [(0,.aC w 0),(2,lv),(3,dv),(14,v),(15,.int .i64 ts.length),(16,.int .i64 p.length)] h=some (.exit 0,[(0,.aC w 0),(2,lv),(3,dv),(14,v),(15,.int .i64 ts.length),(16,.int .i64 ts.length),(17,.bool false)],h')∧WX h0 h' w (bs++vO E D q) ov'
 | [], p, bs, h, ov, hp, x, hb => by
   rw[QY]at hp;subst hp
   refine⟨h,ov,sJ ?_,by simpa [vO]using x⟩
   simp (disch:=omega)only[go_sem,vo,AP.f339L0]
 | t :: q, p, bs, h, ov, hp, x, hb => by
   have ht:ts[p.length]?=some t:=by rw[hp];simp
   obtain⟨o1,o2,o3⟩:=ok t (by rw[hp];simp)
   obtain⟨h1,ov1,k1,x1⟩:=H8 hn h0 rd rl rx w p.length t ht o1 o2 o3 h bs ov x (by simp only[QG]at hb;omega)
   have bl:=Bp o1
   obtain⟨h',ov',L,x2⟩:=DC hn h0 rd rl rx ok w q (p++[t]) _ h1 ov1 (by rw[hp];simp) x1 (by simp only[QG,uR]at hb ⊢;omega)
   have e3:(p++[t]).length=p.length+1:=by simp
   rw[e3]at L
   refine⟨h',ov',sK k1 L, ?_⟩
   have:vO E D (t::q)=vz E D t++vO E D q:=by simp [vO]
   rw[this,←QS];exact x2
theorem He {v lv dv:AV} {ts:List Tok} {E D:List (Int×Int)} (hn:ts.length<1000000) (h0:H) (rd:xH 3 h0 v ts.length (vB ts)) (rl:xH 2 h0 lv E.length (E.flatMap v9)) (rx:xH 2 h0 dv D.length (D.flatMap v9)) (ok:∀t∈ts,G7 E D t∧xe t∧(t.len≠0→t.lit=0)) (o256:zU E 256) (w:Nat) (bs:List Nat) (h:H) (ov:AV) (x:WX h0 h w bs ov) (hb:bs.length+48* ts.length≤65000):
 ∃h',aQ AP.A 339 [.aC w 0,v,lv,dv] h=some (.str (bytesOf (vm (bs++(vO E D ts++u1 E 256)))),h'):=by
 have ln:=rd.len
 obtain⟨h1,o1,L,x1⟩:=DC hn h0 rd rl rx ok w ts [] bs h ov rfl x hb
 have L':Lp AP.A [0,2,3,14,15,16] AP.f339L0 [(0,.aC w 0),(2,lv),(3,dv),(14,v),(15,.int .i64 ts.length),(16,.int .i64 0)] h=_:=L
 have bl:=A3 (E:=E) (D:=D) (ts:=ts) fun t ht=>(ok t ht).1
 obtain⟨h2,o2,k2,x2,_⟩:=Gt rl x1 256 0 0 o256 (by omega) (by omega) (by rw[uR];omega)
 have k3:=Hd x2.wr
 have e:bs++vO E D ts++(u1 E 256++vj 0 0)=bs++(vO E D ts++u1 E 256):=by simp [vj,AR]
 rw[e]at k3
 have k2':aQ AP.A 350 [.aC w 0,lv,.agg [.int .i64 256,.int .i64 0,.int .i64 0]] h1=some (.bJ [],h2):=k2
 refine⟨h2,sY (fn:=AP.f339) (e:=[(8,.str (bytesOf (vm (bs++(vO E D ts++u1 E 256)))))]) (vs:=[.str (bytesOf (vm (bs++(vO E D ts++u1 E 256))))]) rfl rfl rfl ?_ rfl⟩
 clear x1 x2 rd rl rx ok x
 generalize bytesOf (vm (bs++(vO E D ts++u1 E 256)))=TX at *
 simp (disch:=omega)only[go_sem,vo,AP.f339,ln,rH,L',k2',k3]
theorem zI (c:ae) (e:Env) (h:H) (x y:X):ah c e h (.mn [x,y])=cU h (lJ (x.ev e) (y.ev e)):=by
 show(fO lJ (x.ev e) [y.ev e]).bind _=_
 simp only[fO]
 cases lJ (x.ev e) (y.ev e)<;>rfl
def D6 (a b:Int):Int:=if b<a then b else a
theorem yj (k:IntKind) (a b:Int):lJ (.int k a) (.int k b)=some (.int k (D6 a b)):=rfl
structure Tx (hb h:H) (x:Nat) (ov:AV) (out:List Nat):Prop where
 ext:Ext hb h
 fl:h.floor=hb.next
 Ig:h.floor≤h.next
 gx:h.get x=some [ov]
 lx:hb.next≤x
 own:vG 1 h ov out.length (xI out)
 nx:ov.id?≠some x
 GJ:JM out
theorem Tx.push {hb h:H} {x:Nat} {ov:AV} {out:List Nat} (v:Tx hb h x ov out) (b:Nat) (hb8:b<256) (hl:out.length<100000):∃h1 v1,j9 (h.alloc [.int .u8 b]) 1 1 ov (.aD h.next 0 1 1)=some (v1,h1)∧v1.sc=true∧v1.cells=[v1]∧h1.get x=some [ov]∧h1.floor≤x∧Tx hb (h1.set x [v1]) x v1 (out++[b])∧h.next≤(h1.set x [v1]).next∧∀i,i<h.next→i≠x→ov.id?≠some i→(h1.set x [v1]).get i=h.get i:=by
 obtain⟨v1,h1,p1,p2,p3,p4,p5,p6⟩:=v.own.push v.Ig (z:=1) (m:=1) (by omega) (by omega) [.int .u8 b] rfl rfl (ze (by omega))
 have lx:=h.lt _ _ v.gx
 have fl:=v.fl
 have vlx:=v.lx
 have g1:h1.get x=some [ov]:=by rw[p5 x v.nx lx,v.gx]
 refine⟨h1,v1,p1,p2.sc,p2.cells,g1,by omega,⟨fun i c hi=> ?_,by simp;omega,by simp;have:=v.Ig;omega,by rw[vi rfl,g1];rfl,v.lx, ?_, ?_,fun y hy=> ?_⟩,by simp;omega,fun i h1' h2 h3=>by rw[uV h2,p5 i h3 h1']⟩
 · have l1:=hb.lt _ _ hi
   have e:=v.ext i c hi
   have l2:=h.lt _ _ e
   rw[uV (by omega),p5 i (fun q=>by have:=(v.own.lt q).1;omega) l2,e]
 · rw[EF,uR]
   exact p2.mono (by simp) fun j hj=>by
    rw[p6]at hj
    have:=ud hj
    rw[uV (by omega)]
 · rw[p6];intro q;have:=ud q;omega
 · rcases Q7.1 hy with q|q
   · exact v.GJ y q
   · simp at q;omega
theorem Dy {hb : H} {x c L D : Nat} {l0 : AV} (hL : L ≤ 258) (hD1 : 1 ≤ D) : ∀ (m j : Nat) (out : List Nat) (h : H) (ov : AV), j + m = L → D ≤ out.length → out.length + m ≤ 10000 → Tx hb h x ov out → h.get c = some [l0, .int .i64 L, .int .i64 D] → c ≠ x → ov.id? ≠ some c →
 ∃h' ov',Lp AP.A [0,3,82,83] AP.f353L0 [(0,.aC x 0),(3,.aC c 0),(82,.int .i64 L),(83,.int .i64 j)] h=some (.exit 0,[(0,.aC x 0),(3,.aC c 0),(82,.int .i64 L),(83,.int .i64 L),(84,.bool false)],h')∧Tx hb h' x ov' (HJ D m out)∧h.next≤h'.next
 | 0, j, out, h, ov, hj, hDo, hs, v, gc, hcx, hoc => by
   obtain rfl:j=L:=by omega
   refine⟨h,ov,sJ ?_,v,uv _⟩
   simp (disch:=omega)only[go_sem,vo,AP.f353L0]
 | m + 1, j, out, h, ov, hj, hDo, hs, v, gc, hcx, hoc => by
   have cj:(j:Int)<(L:Int):=by omega
   have gx:=v.gx
   have lc:=h.lt _ _ gc
   obtain⟨y,hy⟩:∃y,out[out.length-D]?=some y:=⟨_,QH (by omega)⟩
   have gy:=NL hy
   have gd:out.getD (out.length-D) 0=y:=by rw[QF,hy];rfl
   have y8:=v.GJ y (uz hy)
   obtain⟨h1,v1,p1,p2,p3,p4,p5,t1,n1,k1⟩:=v.push y y8 (by omega)
   obtain ⟨h', ov', L', t2, n2⟩ := Dy hL hD1 m (j + 1) (out ++ [y]) (h1.set x [v1]) v1 (by omega) (by simp; omega) (by simp; omega) t1 (by rw [k1 c lc hcx hoc, gc]) hcx (fun q => by
    have:=t1.own.lt q
    have e:=t1.nx
    have:(h1.set x [v1]).get c=h.get c:=k1 c lc hcx hoc
    have q2:=t1.own.2
    rcases q2 with ⟨q3,_⟩|⟨i2,q3,q4,_⟩
    · rw[q3]at q;cases q
    · rw [q3] at q
      obtain rfl:=ud q
      rw[this,gc]at q4
      have:=Rh List.length (ud q4)
      have q5:=ud q4
      cases hbo:xI (out++[y])with
      |nil=>rw[hbo]at q5;cases q5
      | cons a r =>
        cases hout:out with
        |nil=>rw[hout]at hDo;simp at hDo;omega
        | cons o r2 =>
          have hl:(xI (out++[y])).length=3:=by rw[←q5];rfl
          have e2:(xI (out++[y]))[1]?=some (.int .i64 L):=by rw[←q5];rfl
          have e3:∃z:Nat,(xI (out++[y]))[1]?=some (.int .u8 z):=by
           simp only[xI,uG]
           rw[K2]at hl
           rw[QH (by omega)]
           exact⟨_,rfl⟩
          obtain⟨z,e3⟩:=e3
          rw[e2]at e3
          cases ud e3)
   have e1:((j+1:Nat):Int)=(j:Int)+1:=by omega
   have e2:(out.length:Int)-(D:Int)=((out.length-D:Nat):Int):=by omega
   have bl:=K2 out
   rw[HJ,gd]
   refine⟨h',ov',sK ?_ L',t2,by omega⟩
   rw[e1]
   rcases v.own.2 with ⟨_,q⟩|⟨id,q1,q2,q3,q4⟩
   · omega
   subst q1
   have ib:cG (.int .i64 ((out.length:Int)-(D:Int))) out.length=some (out.length-D):=by
    rw[e2]
    have:((out.length-D:Nat):Int)<out.length:=by omega
    simp [cG,nh,this]
   have dl:(D:Int)≤100000:=by omega
   clear v t1 t2 L' k1 hoc e2
   generalize xI out=BO at *
   simp (disch:=omega)only[go_sem,vo,AP.f353L0,cj,gx,gc,yE,ib,q2,gy,bl,p1,p2,p3,p4,p5]
def GA (out:List Nat) (t:Tok):Option (List Nat):=match vF out.length t with
 |none=>none
 |some s'=>if 8192<s' then none else some (vx out t)
theorem Nl {hb h : H} {x : Nat} {ov : AV} {out : List Nat} (v : Tx hb h x ov out) (t : Tok) (hl : out.length ≤ 8192) :
 ∃h' ov',aQ AP.A 353 [.aC x 0,.agg [.int .i64 t.lit,.int .i64 t.len,.int .i64 t.vD]] h=some (.bool (GA out t).isSome,h')∧Tx hb h' x ov' ((GA out t).getD out)∧h.next≤h'.next:=by
 obtain⟨g,eg⟩:∃g,g=h.alloc [.int .i64 t.lit,.int .i64 t.len,.int .i64 t.vD]:=⟨_,rfl⟩
 have lx:=h.lt _ _ v.gx
 have gn:g.next=h.next+1:=by rw[eg];simp
 have gk:∀i,i<h.next→g.get i=h.get i:=fun i hi=>by rw[eg,u5 (by omega)]
 have gc:g.get h.next=some [.int .i64 t.lit,.int .i64 t.len,.int .i64 t.vD]:=by rw[eg,u9 rfl]
 have v1:Tx hb g x ov out:=⟨fun i c hi=>by
  have e:=v.ext i c hi
  have:=h.lt _ _ e
  rw[gk i this,e],by rw[eg];simpa using v.fl,by rw[gn,eg];have:=v.Ig;simp;omega,by rw[gk x lx,v.gx],v.lx,v.own.mono (by rw[eg];simp) fun i hi=>gk i (v.own.lt hi).2,v.nx,v.GJ⟩
 have gx:=v1.gx
 have hov:ov.id?≠some h.next:=fun q=>by have:=(v.own.lt q).2;omega
 have ln:iG false ov=some (.int .i64 out.length):=v.own.rd.len
 unfold GA vF
 by_cases c0:t.len=0
 · rw [if_pos c0]
   rw[c0]at eg gc
   rw[c0]
   by_cases c1:t.lit<0∨255<t.lit∨t.vD≠0
   · rw [if_pos c1]
     refine⟨g,ov,sY (fn:=AP.f353) (e:=[(4,.bool false)]) (vs:=[.bool false]) rfl rfl rfl ?_ rfl,v1,by omega⟩
     clear v v1
     by_cases d1:t.lit<0
     · simp (disch:=omega)only[go_sem,vo,AP.f353,←eg,gc,d1]
     · by_cases d2:255<t.lit
       · simp (disch:=omega)only[go_sem,vo,AP.f353,←eg,gc,d1,d2]
       · have d3:(t.vD !=0)=true:=by simp;omega
         simp (disch:=omega)only[go_sem,vo,AP.f353,←eg,gc,d1,d2,d3]
   · rw[if_neg c1]
     have d1:¬t.lit<0:=by omega
     have d2:¬255<t.lit:=by omega
     have d3:(t.vD !=0)=false:=by simp;omega
     by_cases c2:(8192:Int)<(out.length:Int)+1
     · simp only[if_pos c2]
       refine⟨g,ov,sY (fn:=AP.f353) (e:=[(4,.bool false)]) (vs:=[.bool false]) rfl rfl rfl ?_ rfl,v1,by omega⟩
       have d4:(8192:Int)≤(out.length:Int):=by omega
       clear v v1
       simp (disch:=omega)only[go_sem,vo,AP.f353,←eg,gc,d1,d2,d3,gx,ln,d4]
     · simp only[if_neg c2]
       obtain⟨b,hb8⟩:∃b:Nat,t.lit=b:=QN (by omega)
       obtain⟨h1,w1,p1,p2,p3,p4,p5,t1,n1,k1⟩:=v1.push b (by omega) (by omega)
       have eo:vx out t=out++[b]:=by unfold vx;rw[if_pos c0,hb8];rfl
       refine⟨h1.set x [w1],w1,sY (fn:=AP.f353) (e:=[(4,.bool true)]) (vs:=[.bool true]) rfl rfl rfl ?_ rfl,by simp only[Option.getD_some];rw[eo];exact t1,by omega⟩
       have d4:¬(8192:Int)≤(out.length:Int):=by omega
       rw[hb8]at gc d1 d2 eg ⊢
       have wb1:IntKind.wrap .u8 (b:Int)=b:=PW (by omega)
       clear v v1 t1 k1
       simp (disch:=omega)only[go_sem,vo,AP.f353,←eg,gc,d1,d2,d3,gx,ln,d4,wb1,p1,p2,p3,p4,p5]
 · rw [if_neg c0]
   have cb:(t.len==0)=false:=by simp;omega
   by_cases c1:t.len<3∨258<t.len∨t.vD<1∨32768<t.vD∨(out.length:Int)<t.vD∨t.lit≠0
   · rw [if_pos c1]
     refine⟨g,ov,sY (fn:=AP.f353) (e:=[(4,.bool false)]) (vs:=[.bool false]) rfl rfl rfl ?_ rfl,v1,by omega⟩
     clear v v1
     by_cases d1:t.lit=0
     · have d1':(t.lit !=0)=false:=by simp [d1]
       by_cases d2:t.len<3
       · simp (disch:=omega)only[go_sem,vo,AP.f353,←eg,gc,cb,d1',d2]
       · by_cases d3:258<t.len
         · simp (disch:=omega)only[go_sem,vo,AP.f353,←eg,gc,cb,d1',d2,d3]
         · by_cases d4:t.vD<1
           · simp (disch:=omega)only[go_sem,vo,AP.f353,←eg,gc,cb,d1',d2,d3,d4]
           · have d5:D6 out.length 32768<t.vD:=by unfold D6;split<;>omega
             simp (disch:=omega)only[go_sem,vo,AP.f353,←eg,gc,cb,d1',d2,d3,d4,gx,ln,zI,yj,d5]
     · have d1':(t.lit !=0)=true:=by simp [d1]
       simp (disch:=omega)only[go_sem,vo,AP.f353,←eg,gc,cb,d1']
   · rw [if_neg c1]
     have d1:(t.lit !=0)=false:=by simp;omega
     have d2:¬t.len<3:=by omega
     have d3:¬258<t.len:=by omega
     have d4:¬t.vD<1:=by omega
     have d5:¬D6 out.length 32768<t.vD:=by unfold D6;split<;>omega
     by_cases c2:(8192:Int)<(out.length:Int)+t.len
     · simp only[if_pos c2]
       refine⟨g,ov,sY (fn:=AP.f353) (e:=[(4,.bool false)]) (vs:=[.bool false]) rfl rfl rfl ?_ rfl,v1,by omega⟩
       have sb:t.len≤258:=by omega
       have sb2:0≤t.len:=by omega
       clear v v1
       simp (disch:=omega)only[go_sem,vo,AP.f353,←eg,gc,cb,d1,d2,d3,d4,gx,ln,zI,yj,d5,c2]
     · simp only[if_neg c2]
       obtain⟨L,hL⟩:∃y:Nat,t.len=y:=QN (by omega)
       obtain⟨D,hD⟩:∃y:Nat,t.vD=y:=QN (by omega)
       rw[hL,hD]at gc eg
       obtain⟨h',ov',L1,t2,n2⟩:=Dy (hb:=hb) (c:=h.next) (l0:=.int .i64 t.lit) (L:=L) (D:=D) (by omega) (by omega) L 0 out g ov (by omega) (by omega) (by omega) v1 gc (by omega) hov
       have L1':Lp AP.A [0,3,82,83] AP.f353L0 [(0,.aC x 0),(3,.aC h.next 0),(82,.int .i64 L),(83,.int .i64 0)] g=_:=L1
       have eo:vx out t=HJ D L out:=by
        unfold vx;rw[if_neg c0,hL,hD];rfl
       refine⟨h',ov',sY (fn:=AP.f353) (e:=[(4,.bool true)]) (vs:=[.bool true]) rfl rfl rfl ?_ rfl,by simp only[Option.getD_some];rw[eo];exact t2,by omega⟩
       rw[hL]at cb d2 d3 c2 ⊢
       rw[hD]at d4 d5 ⊢
       have sb:L≤258:=by omega
       clear v v1 t2 L1
       simp (disch:=omega)only[go_sem,vo,AP.f353,←eg,gc,cb,d1,d2,d3,d4,gx,ln,zI,yj,d5,c2,rH,L1']
theorem zy {out:List Nat} {t:Tok} {s':Int} (h:vF out.length t=some s'):((vx out t).length:Int)=s':=by
 unfold vF at h
 unfold vx
 by_cases c:t.len=0
 · rw[if_pos c]at h ⊢
   split at h
   · cases h
   · have:=ud h;simp;omega
 · rw[if_neg c]at h ⊢
   split at h
   · cases h
   · have:=ud h;rw[Bw];omega
theorem GU : ∀ (ts : List Tok) (out : List Nat), vk out.length ts = true → out.length ≤ 8192 → (wg ts out).length ≤ 8192
 |[],_,_,h=>h
 | t :: r, out, hm, _ => by
   unfold vk at hm
   cases e:vF out.length t with
   |none=>rw[e]at hm;cases hm
   | some s' =>
     rw[e]at hm
     have l:=zy e
     by_cases c:8192<s'
     · simp only[if_pos c]at hm;cases hm
     · simp only[if_neg c]at hm
       rw[←l]at hm
       exact GU r (vx out t) hm (by omega)
theorem Gb {ts:List Tok} {t:ByteArray} (h:xh ts=some t):t.size≤8192:=by
 unfold xh at h
 split at h
 · rename_i c
   rw[←ud h,vH]
   exact GU ts [] c (by simp)
 · cases h
theorem Eu {hb : H} {x : Nat} {v : AV} {ts : List Tok} (hn : ts.length < 1125899906842624) (rd : xH 3 hb v ts.length (vB ts)) : ∀ (q p : List Tok) (out : List Nat) (h : H) (ov : AV), ts = p ++ q → Tx hb h x ov out → out.length ≤ 8192 →
 (vk out.length q=true→∃h' ov' e',Lp AP.A [5,10,11,12] AP.f343L0 [(5,.fn 353 [.aC x 0] []),(10,v),(11,.int .i64 ts.length),(12,.int .i64 p.length)] h=some (.exit 0,e',h')∧Tx hb h' x ov' (wg q out)∧(wg q out).length≤8192)∧
 (vk out.length q=false→∃h',Lp AP.A [5,10,11,12] AP.f343L0 [(5,.fn 353 [.aC x 0] []),(10,v),(11,.int .i64 ts.length),(12,.int .i64 p.length)] h=some (.ret,[(4,.bool false)],h'))
 | [], p, out, h, ov, hp, t, hl => by
   rw[QY]at hp;subst hp
   refine⟨fun _=>⟨h,ov,[(5,.fn 353 [.aC x 0] []),(10,v),(11,.int .i64 ts.length),(12,.int .i64 ts.length),(13,.bool false)],sJ ?_,t,hl⟩,fun q=>by cases q⟩
   simp (disch:=omega)only[go_sem,vo,AP.f343L0]
 | k :: q, p, out, h, ov, hp, t, hl => by
   have hlen:ts.length=p.length+(q.length+1):=by rw[hp];simp
   have hk:ts[p.length]?=some k:=by rw[hp];simp
   obtain⟨ad,a1,a2,a3⟩:=rd.Ny
   have b1:=a1 p.length ⟨by omega,by omega⟩
   obtain⟨_,_,_,b2⟩:=a3 h t.ext _ _ hk
   have c1:((p.length:Nat):Int)<ts.length:=by omega
   obtain⟨g,eg⟩:∃g,g=(h.alloc [.int .i64 0,.int .i64 0,.int .i64 0]).set h.next [.int .i64 k.lit,.int .i64 k.len,.int .i64 k.vD]:=⟨_,rfl⟩
   have gg:g.get h.next=some [.int .i64 k.lit,.int .i64 k.len,.int .i64 k.vD]:=by rw[eg,vi rfl,u9 rfl];rfl
   have gn:g.next=h.next+1:=by rw[eg];simp
   have gk:∀i,i<h.next→g.get i=h.get i:=fun i hi=>by rw[eg,uV (by omega),u5 (by omega)]
   have fl1:h.floor≤h.next:=t.Ig
   have lx:=h.lt _ _ t.gx
   have tg:Tx hb g x ov out:=⟨fun i c hi=>by
    have e:=t.ext i c hi
    have:=h.lt _ _ e
    rw[gk i this,e],by rw[eg];simpa using t.fl,by rw[gn,eg];simp;omega,by rw[gk x lx,t.gx],t.lx,t.own.mono (by rw[eg];simp) fun i hi=>gk i (t.own.lt hi).2,t.nx,t.GJ⟩
   obtain⟨h1,ov1,k1,t1,_⟩:=Nl tg k hl
   have k1':jZ (aQ AP.A) [.agg [.int .i64 k.lit,.int .i64 k.len,.int .i64 k.vD]] g (.fn 353 [.aC x 0] [])=some (.bool (GA out k).isSome,h1):=k1
   cases hs:GA out k with
   | none =>
     have hm:vk out.length (k::q)=false:=by
      unfold GA at hs
      rw[vk]
      cases e:vF out.length k with
      |none=>rfl
      | some s' =>
        rw[e]at hs
        simp only at hs ⊢
        by_cases c:8192<s'
        · rw[if_pos c]
        · rw[if_neg c]at hs;cases hs
     refine⟨fun q=>(by rw[hm]at q;cases q),fun _=>⟨h1,td ?_⟩⟩
     rw[hs]at k1'
     have k2:aQ AP.A 353 ([.aC x 0]++[.agg [.int .i64 k.lit,.int .i64 k.len,.int .i64 k.vD]]++[]) g=some (.bool false,h1):=k1'
     simp only[List.cons_append,List.nil_append,QY]at k2
     clear t tg t1 a1 a2 a3 rd
     simp (disch:=omega)only[go_sem,vo,AP.f343L0,c1,b1,b2,←eg,gg,k2,JQ,uE,Rl,QZ]
   | some o' =>
     rw[hs]at t1 k1'
     simp only[Option.getD_some]at t1
     have key:∃s',vF out.length k=some s'∧¬8192<s'∧o'=vx out k:=by
      unfold GA at hs
      cases e:vF out.length k with
      |none=>rw[e]at hs;cases hs
      | some s' =>
        rw[e]at hs
        simp only at hs
        by_cases c:8192<s'
        · rw[if_pos c]at hs;cases hs
        · rw[if_neg c]at hs
          exact⟨s',rfl,c,(ud hs).symm⟩
     obtain⟨s',e1,e2,e3⟩:=key
     have el:=zy e1
     rw[←e3]at el
     have hm:vk out.length (k::q)=vk o'.length q:=by
      rw[vk,e1]
      simp only[if_neg e2,el]
     have ee:wg (k::q) out=wg q o':=by rw[wg,e3]
     rw[hm,ee]
     have k2:aQ AP.A 353 ([.aC x 0]++[.agg [.int .i64 k.lit,.int .i64 k.len,.int .i64 k.vD]]++[]) g=some (.bool true,h1):=k1'
     simp only[List.cons_append,List.nil_append,QY]at k2
     obtain⟨r1,r2⟩:=Eu hn rd q (p++[k]) o' h1 ov1 (by rw[hp];simp) t1 (by omega)
     have w1:((p++[k]).length:Int)=(p.length:Int)+1:=by simp
     rw[w1]at r1 r2
     have st:aK (aQ AP.A) bo AP.f343L0 (ax [(5,.fn 353 [.aC x 0] []),(10,v),(11,.int .i64 ts.length),(12,.int .i64 p.length)] [5,10,11,12]) h=some (.normal,[(5,.fn 353 [.aC x 0] []),(10,v),(11,.int .i64 ts.length),(12,.int .i64 ((p.length:Int)+1))],h1):=by
      clear t tg t1 a1 a2 a3 rd r1 r2
      simp (disch:=omega)only[go_sem,vo,AP.f343L0,c1,b1,b2,←eg,gg,k2,JQ,uE,Rl,QZ]
     refine⟨fun z=> ?_,fun z=> ?_⟩
     · obtain⟨h',ov',e',L,q1,q2⟩:=r1 z
       exact⟨h',ov',e',sK st L,q1,q2⟩
     · obtain⟨h',L⟩:=r2 z
       exact⟨h',sK st L⟩
theorem H4 (h:H) (v:AV) (ts:List Tok) (hn:ts.length<1125899906842624) (rd:xH 3 h v ts.length (vB ts)):aQ AP.A 328 [v] h=some (Mb (xh ts),h):=by
 have yh:xH 3 h.dG v ts.length (vB ts):=rd.mono fun i c q=>q
 have ln:=rd.len
 obtain⟨g,eg⟩:∃g,g=h.dG.alloc [.aO]:=⟨_,rfl⟩
 have gx:g.get h.next=some [.aO]:=by rw[eg,u9 (by simp)]
 have t0:Tx h.dG g h.next .aO []:=⟨by rw[eg];exact(Ext.refl _).alloc _,by rw[eg];simp,by rw[eg];simp,gx,by simp,vG.nil,by simp [AV.id?],fun y hy=>by simp at hy⟩
 obtain⟨r1,r2⟩:=Eu hn yh ts [] [] g .aO rfl t0 (by simp)
 have hN:h.dG.next=h.next:=rfl
 unfold xh
 by_cases hm:vk 0 ts=true
 · rw[if_pos hm]
   obtain⟨h',ov',e',L,t1,_⟩:=r1 hm
   have L':Lp AP.A [5,10,11,12] AP.f343L0 [(5,.fn 353 [.aC h.next 0] []),(10,v),(11,.int .i64 ts.length),(12,.int .i64 0)] g=some (.exit 0,e',h'):=L
   have k:aQ AP.A 343 [.aC h.next 0,v] g=some (.bool true,h'):=by
    refine sY (fn:=AP.f343) (e:=[(4,.bool true)]) (vs:=[.bool true]) rfl rfl rfl ?_ rfl
    clear t1 t0 rd yh r1 r2
    simp (disch:=omega)only[go_sem,vo,AP.f343,ln,rH,L']
   have b:=Ew t1.own
   have g1:=t1.gx
   refine tB (fn:=AP.f328) (h2:=h') (e:=[(2,.str (bytesOf (wg ts []))),(3,.int .i64 0)]) (vs:=[.str (bytesOf (wg ts [])),.int .i64 0]) rfl rfl rfl ?_ rfl rfl
   clear t1 t0 rd yh r1 r2 L L'
   generalize bytesOf (wg ts [])=B at *
   simp (disch:=omega)only[go_sem,vo,AP.f328,←eg,hN,k,g1,b]
 · rw[if_neg hm]
   obtain⟨h',L⟩:=r2 (Bool.eq_false_iff.2 hm)
   have L':Lp AP.A [5,10,11,12] AP.f343L0 [(5,.fn 353 [.aC h.next 0] []),(10,v),(11,.int .i64 ts.length),(12,.int .i64 0)] g=some (.ret,[(4,.bool false)],h'):=L
   have k:aQ AP.A 343 [.aC h.next 0,v] g=some (.bool false,h'):=by
    refine sY (fn:=AP.f343) (e:=[(4,.bool false)]) (vs:=[.bool false]) rfl rfl rfl ?_ rfl
    clear t0 rd yh r1 r2
    simp (disch:=omega)only[go_sem,vo,AP.f343,ln,rH,L']
   refine tB (fn:=AP.f328) (h2:=h') (e:=[(2,.str ⟨#[]⟩),(3,.int .i64 500)]) (vs:=[.str ⟨#[]⟩,.int .i64 500]) rfl rfl rfl ?_ rfl rfl
   clear t0 rd yh r1 r2 L L'
   simp (disch:=omega)only[go_sem,vo,AP.f328,←eg,hN,k]
theorem Gs (h:H) (v:AV) (ts:List Tok) (hn:ts.length<1125899906842624) (rd:xH 3 h v ts.length (vB ts)):aQ AP.A 337 [v] h=some (.bool (ym ts),h):=by
 have k:=H4 h.dG v ts hn (rd.mono fun i c q=>q)
 unfold ym
 cases he:xh ts with
 | none =>
   rw[he]at k
   simp only[Mb]at k
   refine tB (fn:=AP.f337) (h2:=h.dG) (e:=[(2,.bool false)]) (vs:=[.bool false]) rfl rfl rfl ?_ rfl rfl
   have cb:((500:Int)==0)=false:=by decide
   clear rd
   simp (disch:=omega)only[go_sem,vo,AP.f337,k,cb]
 | some t =>
   rw[he]at k
   have:=Gb he
   simp only[Mb]at k
   refine tB (fn:=AP.f337) (h2:=h.dG) (e:=[(2,.bool (decide (t.size≤300)))]) (vs:=[.bool (decide (t.size≤300))]) rfl rfl rfl ?_ rfl rfl
   have cb:((0:Int)==0)=true:=by decide
   clear rd
   by_cases c:t.size≤300
   · have c':(t.size:Int)≤300:=by omega
     simp (disch:=omega)only[go_sem,vo,AP.f337,k,QL c,c',cb]
   · have c':¬(t.size:Int)≤300:=by omega
     simp (disch:=omega)only[go_sem,vo,AP.f337,k,QJ c,c',cb]
theorem Dr (s : ByteArray) (i d : Nat) (hs : s.size < 100000) (hd : d ≤ i) (hi : i ≤ s.size) (h : H) : ∀ (f k : Nat), k + f = 258 →
 ∃e',Lp AP.A [0,1,2,7] AP.f354L0 [(0,.str s),(1,.int .i64 i),(2,.int .i64 d),(7,.int .i64 k)] h=some (.exit 0,e',h)∧look e' 7=.int .i64 (xD s i (i-d) f k:Nat)
 | 0, k, hk => by
   obtain rfl:k=258:=by omega
   refine⟨[(0,.str s),(1,.int .i64 i),(2,.int .i64 d),(7,.int .i64 258),(32,.bool false)],sJ ?_,rfl⟩
   have c:¬((258:Nat):Int)<258:=by omega
   simp (disch:=omega)only[go_sem,vo,AP.f354L0,c]
 | f + 1, k, hk => by
   have n1:((k:Int)+1)=((k+1:Nat):Int):=by omega
   have c0:(k:Int)<258:=by omega
   by_cases c1:i+k<s.size
   · have c1':(i:Int)+(k:Int)<s.size:=by omega
     have x1:lG (.str s) (.int .i64 ((i:Int)+(k:Int)))=some (.int .u8 (wO s (i+k):Nat)):=by
      have:=yq (s:=s) (i:=(i:Int)+(k:Int)) ⟨by omega,by omega⟩
      rw[show((i:Int)+(k:Int)).toNat=i+k by omega]at this;exact this
     have x2:lG (.str s) (.int .i64 ((i:Int)+(k:Int)-(d:Int)))=some (.int .u8 (wO s (i-d+k):Nat)):=by
      have:=yq (s:=s) (i:=(i:Int)+(k:Int)-(d:Int)) ⟨by omega,by omega⟩
      rw[show((i:Int)+(k:Int)-(d:Int)).toNat=i-d+k by omega]at this;exact this
     by_cases c2:wO s (i+k)=wO s (i-d+k)
     · obtain⟨e',r1,r2⟩:=Dr s i d hs hd hi h f (k+1) (by omega)
       refine⟨e',sK ?_ r1, ?_⟩
       · rw[←n1]
         have cb:((wO s (i+k):Int)==(wO s (i-d+k):Int))=true:=by simp [c2]
         simp (disch:=omega)only[go_sem,vo,AP.f354L0,c0,c1',x1,x2,cb]
       · rw[r2,xD,if_pos ⟨by omega,c1,c2⟩]
     · refine⟨[(0,.str s),(1,.int .i64 i),(2,.int .i64 d),(7,.int .i64 k),(32,.bool false)],sJ ?_, ?_⟩
       · have cb:((wO s (i+k):Int)==(wO s (i-d+k):Int))=false:=by simp;omega
         simp (disch:=omega)only[go_sem,vo,AP.f354L0,c0,c1',x1,x2,cb]
       · rw[xD,if_neg (fun q=>c2 q.2.2)];rfl
   · refine⟨[(0,.str s),(1,.int .i64 i),(2,.int .i64 d),(7,.int .i64 k),(32,.bool false)],sJ ?_, ?_⟩
     · have c1':¬(i:Int)+(k:Int)<s.size:=by omega
       simp (disch:=omega)only[go_sem,vo,AP.f354L0,c0,c1']
     · rw[xD,if_neg (fun q=>c1 q.2.1)];rfl
theorem Nf (h:H) (s:ByteArray) (i d:Nat) (hs:s.size<100000) (hd:d≤i) (hi:i≤s.size):aQ AP.A 354 [.str s,.int .i64 i,.int .i64 d] h=some (.int .i64 (same s i (i-d):Nat),h):=by
 obtain⟨e',r1,r2⟩:=Dr s i d hs hd hi h.dG 258 0 rfl
 have r1':Lp AP.A [0,1,2,7] AP.f354L0 [(0,.str s),(1,.int .i64 i),(2,.int .i64 d),(7,.int .i64 0)] h.dG=some (.exit 0,e',h.dG):=r1
 clear r1
 refine tB (fn:=AP.f354) (h2:=h.dG) (e:=[(6,.int .i64 (same s i (i-d):Nat))]) (vs:=[.int .i64 (same s i (i-d):Nat)]) rfl rfl rfl ?_ rfl rfl
 simp (disch:=omega)only[go_sem,vo,AP.f354,rH,r1',r2,same]
def Du (b:Nat×Nat):Nat×Nat:=if b.1<3 then(0,0)else b
theorem I6 (b:Nat×Nat) (m d:Nat):Du (if b.1<m then(m,d)else b)=if 3≤m∧(Du b).1<m then(m,d)else Du b:=by
 unfold Du
 by_cases c:b.1<3
 · rw[if_pos c]
   by_cases q:b.1<m
   · rw[if_pos q]
     by_cases z:m<3
     · rw[if_pos z,if_neg (by omega)]
     · rw[if_neg z,if_pos ⟨by omega,by show 0<m;omega⟩]
   · rw[if_neg q,if_pos c,if_neg (by omega)]
 · rw[if_neg c]
   by_cases q:b.1<m
   · rw[if_pos q,if_neg (by show¬m<3;omega),if_pos ⟨by omega,q⟩]
   · rw[if_neg q,if_neg c,if_neg (fun z=>q z.2)]
theorem zL (s : ByteArray) (i : Nat) (hs : s.size < 32000) (hi : i < s.size) (v4 : AV) (c5 : Nat) : ∀ (n : Nat) (b : Nat × Nat) (d : Int) (h : H), n ≤ i → d = (i : Int) - n + 1 → h.get c5 = some [.int .i64 0, .int .i64 (Du b).1, .int .i64 (Du b).2] → h.floor ≤ c5 →
 ∃e' h',Lp AP.A [0,1,4,5,6] AP.f344L0 [(0,.str s),(1,.int .i64 i),(4,v4),(5,.aC c5 0),(6,.int .i64 d)] h=some (.exit 0,e',h')∧look e' 4=v4∧look e' 5=.aC c5 0∧h'.get c5=some [.int .i64 0,.int .i64 (Du (vC s i n b)).1,.int .i64 (Du (vC s i n b)).2]∧(∀j,j≠c5→h'.get j=h.get j)∧h'.next=h.next∧h'.floor=h.floor
 | 0, b, d, h, hn, hd, hg, hf => by
   refine⟨[(0,.str s),(1,.int .i64 i),(4,v4),(5,.aC c5 0),(6,.int .i64 d),(11,.bool false)],h,sJ ?_,rfl,rfl,hg,fun _ _=>rfl,rfl,rfl⟩
   have m:D6 (i:Int) 32768=i:=by unfold D6;rw[if_neg (by omega)]
   have c:¬d≤(i:Int):=by omega
   simp (disch:=omega)only[go_sem,vo,AP.f344L0,zI,yj,m,c]
 | n + 1, b, d, h, hn, hd, hg, hf => by
   have m:D6 (i:Int) 32768=i:=by unfold D6;rw[if_neg (by omega)]
   have c:d≤(i:Int):=by omega
   obtain⟨D,rfl⟩:∃D:Nat,d=D:=QN (by omega)
   have k1:=fun g=>Nf g s i D (by omega) (by omega) (by omega)
   have eD:i-D=n:=by omega
   rw[eD]at k1
   have k2:=Hi s i n
   have st:=I6 b (same s i n) (i-n)
   have iD:i-n=D:=by omega
   rw[vC]
   by_cases q:3≤same s i n∧(Du b).1<same s i n
   · rw[if_pos q,iD]at st
     rw[iD]
     obtain⟨e',h',L,r1,r2,r3,r4,r5,r6⟩:=zL s i hs hi v4 c5 n (if b.1<same s i n then(same s i n,D)else b) ((D:Int)+1) (h.set c5 [.int .i64 0,.int .i64 (same s i n:Nat),.int .i64 D]) (by omega) (by omega) (by rw[vi rfl,hg,st];rfl) (by simpa using hf)
     refine⟨e',h',sK ?_ L,r1,r2,r3,fun j hj=>by rw[r4 j hj,uV hj],by rw[r5];simp,by rw[r6];simp⟩
     have q1:(3:Int)≤(same s i n:Nat):=by omega
     have q2:((Du b).1:Int)<(same s i n:Nat):=by omega
     clear L r3 r4 st
     generalize same s i n=M at *
     generalize (Du b).1=B1 at *
     generalize (Du b).2=B2 at *
     simp (disch:=omega)only[go_sem,vo,AP.f344L0,zI,yj,m,c,k1,q1,q2,hg]
   · rw[if_neg q]at st
     obtain⟨e',h',L,r1,r2,r3,r4,r5,r6⟩:=zL s i hs hi v4 c5 n (if b.1<same s i n then(same s i n,i-n)else b) ((D:Int)+1) h (by omega) (by omega) (by rw[st];exact hg) hf
     refine⟨e',h',sK ?_ L,r1,r2,r3,r4,r5,r6⟩
     clear L r3 r4 st
     generalize same s i n=M at *
     generalize (Du b).1=B1 at *
     generalize (Du b).2=B2 at *
     by_cases q1:(3:Int)≤(M:Nat)
     · have q2:¬(B1:Int)<(M:Nat):=by omega
       simp (disch:=omega)only[go_sem,vo,AP.f344L0,zI,yj,m,c,k1,q1,q2,hg]
     · simp (disch:=omega)only[go_sem,vo,AP.f344L0,zI,yj,m,c,k1,q1]
theorem Ki (h:H) (s:ByteArray) (i:Nat) (hs:s.size<32000) (hi:i<s.size):aQ AP.A 344 [.str s,.int .i64 i] h=some (.agg [.int .i64 0,.int .i64 (Du (vC s i i (0,0))).1,.int .i64 (Du (vC s i i (0,0))).2],h):=by
 obtain⟨g,eg⟩:∃g,g=(h.dG.alloc [.int .i64 0,.int .i64 0,.int .i64 0]).alloc [.int .i64 0,.int .i64 0,.int .i64 0]:=⟨_,rfl⟩
 obtain⟨e',h',L,r1,r2,r3,r4,r5,r6⟩:=zL s i hs hi (.aC h.next 0) (h.next+1) i (0,0) 1 g (uv _) (by omega) (by rw[eg,u9 (by simp)];try rfl) (by rw[eg];simp;try omega)
 have g4:h'.get h.next=some [.int .i64 0,.int .i64 0,.int .i64 0]:=by rw[r4 _ (by omega),eg,u5 (by simp),u9 (by simp)]
 have f1:h'.floor=h.next:=by rw[r6,eg];simp
 generalize (Du (vC s i i (0,0))).1=B1 at *
 generalize (Du (vC s i i (0,0))).2=B2 at *
 have g5:(h'.set h.next [.int .i64 0,.int .i64 B1,.int .i64 B2]).get h.next=some [.int .i64 0,.int .i64 B1,.int .i64 B2]:=by rw[vi rfl,g4];rfl
 refine tB (fn:=AP.f344) (h2:=h'.set h.next [.int .i64 0,.int .i64 B1,.int .i64 B2]) (e:=[(4,.aC h.next 0)]) (vs:=[.agg [.int .i64 0,.int .i64 B1,.int .i64 B2]]) rfl rfl rfl ?_ ?_ rfl
 · have hN:h.dG.next=h.next:=rfl
   have hN2:(h.dG.alloc [.int .i64 0,.int .i64 0,.int .i64 0]).next=h.next+1:=by simp
   clear r4
   simp (disch:=omega)only[go_sem,vo,AP.f344,hN,hN2,←eg,rH,L,r1,r2,r3,g4,f1,JQ,uE,Rl,QZ]
 · simp (disch:=omega)only[go_sem,vo,AP.f344,cm,mO,g5,JQ,uE,Rl,QZ]
   rfl
theorem Hf (h:H) (l:List Int):Rd h (yC (ints l)) (ints l):=by
 unfold yC
 by_cases c:ints l=[]
 · rw[if_pos c,c];exact⟨rfl,by intro s e;cases e⟩
 · rw[if_neg c]
   refine⟨by simp [aR,uM],by intro s e;cases e⟩
theorem HF (p:List Int) (x:Int) {n:Nat} (hn:1≤n):wh (p++[x]) n=wh p n+if x=(n:Int)then 1 else 0:=by
 rw[yG]
 congr 1
 by_cases c:x=(n:Int)
 · rw[if_pos ⟨by omega,c⟩,if_pos c]
 · rw[if_neg (fun q=>c q.2),if_neg c]
theorem B6 {l : List Int} (hl : l.length < 1000) (T : List AV) (v25 : AV) (id n : Nat) (hn1 : 1 ≤ n) (hn : n ≤ 15) (hT : T[n]? = some (.int .i64 (u4 l n))) : ∀ (q p : List Int) (h : H), l = p ++ q → h.floor ≤ id → h.get id = some ((vY l n p.length).flatMap v9) →
 ∃h',Lp AP.A [4,6,7,25,26,30,31,32] AP.f338L0 [(4,.aJ T 0),(6,.aD id 0 l.length 2),(7,.int .i64 n),(25,v25),(26,.int .i64 n),(30,yC (ints (syms l n))),(31,.int .i64 (wh l n)),(32,.int .i64 (wh p n))] h=some (.exit 2,[(4,.aJ T 0),(6,.aD id 0 l.length 2),(7,.int .i64 n),(25,v25),(26,.int .i64 n),(30,yC (ints (syms l n))),(31,.int .i64 (wh l n)),(32,.int .i64 (wh l n)),(33,.bool false)],h')∧h'.floor=h.floor∧h'.get id=some ((vY l n l.length).flatMap v9)
 | [], p, h, hp, hf, hg => by
   rw[QY]at hp;subst hp
   refine⟨h,sJ ?_,rfl,hg⟩
   simp (disch:=omega)only[go_sem,vo,AP.f338L0]
 | y :: q, p, h, hp, hf, hg => by
   have hlen:l.length=p.length+(q.length+1):=by rw[hp];simp
   have hy:l.getD p.length 0=y:=by rw[QF,hp];simp
   have tk:l.take p.length=p:=by rw[hp];simp
   have ls:=HF p y hn1
   have sl:(p++[y]).length=p.length+1:=by simp
   by_cases c:y=(n:Int)
   · rw[if_pos c]at ls
     have sa:=Ho (l:=l) (s:=p.length) (by omega) hn1 (hy.trans c)
     rw[tk]at sa
     have hit:=HH (l:=l) (i:=p.length) (by omega) hn1 (hy.trans c)
     rw[tk]at hit
     obtain⟨ad,a1,a2⟩:=(Hf h (syms l n)).wF
     have sc:=yU l n
     have il:wh p n<wh l n:=by have:=(um.1 sa).1;omega
     have b1:=a1 (wh p n) ⟨by omega,by omega⟩
     have b2:=a2 h (Ext.refl h) (wh p n) _ sa
     have fb:=AD (l:=l) (by omega) n
     have pw:=AQ hn
     have cl:=zu l n
     obtain⟨h',L,f1,g1⟩:=B6 hl T v25 id n hn1 hn hT q (p++[y]) (h.set id ((vY l n (p.length+1)).flatMap v9)) (by rw[hp];simp) (by simpa using hf) (by rw[vi rfl,hg,sl];rfl)
     have st:tD h id (p.length* 2) 2 [.int .i64 (n:Int),.int .i64 (u4 l n+(wh p n:Int))] (some ((vY l n p.length).flatMap v9))=some (h.set id ((vY l n (p.length+1)).flatMap v9)):=by
      rw[Jy,←hit,←IL ya _ _ _ (by rw[Az];omega)]
      have:=AF ya (vY l n p.length)
      rw[Az]at this
      simp only[this,hf,QG,QI,decide_true,AV.aB,AV.sc,Bool.and_true,Bool.true_and,show p.length* 2+2≤l.length* 2 by omega]
      rfl
     refine⟨h',sK ?_ L,by rw[f1];simp,g1⟩
     rw[ls]
     have n1:((wh p n+1:Nat):Int)=(wh p n:Int)+1:=by omega
     rw[n1]
     have ib:cG (.int .i64 (p.length:Nat)) l.length=some p.length:=by
      have:(p.length:Int)<l.length:=by omega
      simp [cG,nh,this]
     have il':((wh p n:Nat):Int)<(wh l n:Nat):=by omega
     clear L g1 a1 a2 hit sa ls
     generalize (vY l n (p.length+1)).flatMap v9=E2 at *
     generalize (vY l n p.length).flatMap v9=E at *
     generalize yC (ints (syms l n))=SV at *
     generalize u4 l n=F at *
     generalize wh p n=k at *
     generalize wh l n=K at *
     simp (disch:=omega)only[go_sem,vo,AP.f338L0,il',b1,b2,hT,ib,hg,st]
   · rw[if_neg c,Nat.add_zero]at ls
     have miss:=F7 (l:=l) (b:=n) (i:=p.length) (by rw[hy];exact c)
     obtain⟨h',L,f1,g1⟩:=B6 hl T v25 id n hn1 hn hT q (p++[y]) h (by rw[hp];simp) hf (by rw[sl,miss];exact hg)
     rw[ls]at L
     exact⟨h',L,f1,g1⟩
theorem I4 (l:List Int):iG false (yC (ints l))=some (.int .i64 l.length):=by
 have:=(Hf (H.empty) l).len
 rw[pf]at this;exact this
theorem E0 {l:List Int} (hl:l.length<1000) (T SS:List AV) (id:Nat) (hT:∀n,1≤n→n≤15→T[n]?=some (.int .i64 (u4 l n))) (hS:∀n,n≤15→SS[n]?=some (yC (ints (syms l n)))):∀(m n:Nat) (h:H),n+m=16→1≤n→h.floor≤id→h.get id=some ((vY l n 0).flatMap v9)→
 ∃e' h',Lp AP.A [4,6,25,26] AP.f338L1 [(4,.aJ T 0),(6,.aD id 0 l.length 2),(25,.agg SS),(26,.int .i64 n)] h=some (.exit 0,e',h')∧look e' 6=.aD id 0 l.length 2∧h'.floor=h.floor∧h'.get id=some ((vY l 16 0).flatMap v9)
 | 0, n, h, hm, hn, hf, hg => by
   obtain rfl:n=16:=by omega
   refine⟨[(4,.aJ T 0),(6,.aD id 0 l.length 2),(25,.agg SS),(26,.int .i64 16),(27,.bool false)],h,sJ ?_,rfl,rfl,hg⟩
   simp (disch:=omega)only[go_sem,vo,AP.f338L1]
 | m + 1, n, h, hm, hn, hf, hg => by
   obtain⟨h1,L1,f1,g1⟩:=B6 hl T (.agg SS) id n hn (by omega) (hT n hn (by omega)) l [] h rfl hf hg
   have c0:wh [] n=0:=by simp [wh]
   rw[c0]at L1
   obtain⟨e',h',L,q1,q2,q3⟩:=E0 hl T SS id hT hS m (n+1) h1 (by omega) (by omega) (by omega) (by rw[F8];exact g1)
   refine⟨e',h',sK ?_ L,q1,by rw[q2,f1],q3⟩
   have hs:=hS n (by omega)
   have ln:=I4 (syms l n)
   rw[yU]at ln
   have n1:((n+1:Nat):Int)=(n:Int)+1:=by omega
   have Ie:(n:Int)<16:=by omega
   have ia:lF false 16 1 (.agg SS) (.int .i64 n)=some (yC (ints (syms l n))):=by
    simp [lF,cG,nh,Ie,gE,hs]
   have L1':Lp AP.A [4,6,7,25,26,30,31,32] AP.f338L0 [(4,.aJ T 0),(6,.aD id 0 l.length 2),(7,.int .i64 n),(25,.agg SS),(26,.int .i64 n),(30,yC (ints (syms l n))),(31,.int .i64 (wh l n)),(32,.int .i64 0)] h=_:=L1
   rw[n1]
   clear L L1 q3 g1 hs
   generalize yC (ints (syms l n))=SV at *
   simp (disch:=omega)only[go_sem,vo,AP.f338L1,Ie,ia,ln,rH,L1']
theorem K0 (h:H) (x:AV) (l:List Int) (hl:l.length<1000) (rd:Rd h x (ints l)) (hm:zH l=true) (h0:0≤vg l 15):aQ AP.A 348 [x] h=some (.bJ [vn l,.int .i64 0],h):=by
 have rd':=rd.mono (vb h)
 have k1:=KE h.dG x l (by omega) rd'
 rw[hm]at k1
 have k2:=yN h.dG x l (by omega) (AO hm) rd'
 have hb:vn l=.aJ (mX 49 (v7 l)) 0:=rfl
 have g:(mX 49 (v7 l))[48]?=some (.int .i64 (vg l 15)):=by rw[fy (by omega)];rfl
 have c:¬vg l 15<0:=by omega
 rw[hb]at k2 ⊢
 generalize mX 49 (v7 l)=T at *
 refine tB (fn:=AP.f348) (h2:=h.dG) (e:=[(2,.aJ T 0),(3,.int .i64 0)]) (vs:=[.aJ T 0,.int .i64 0]) rfl rfl rfl ?_ rfl rfl
 simp (disch:=omega)only[go_sem,vo,AP.f348,k1,k2,g,c]
theorem yQ (h:H) (x:AV) (l:List Int) (h1:1≤l.length) (hl:l.length<1000) (rd:Rd h x (ints l)) (hc:vh l=0∨vh l=302):aQ AP.A 338 [x] h=some (.bJ [yH l,.int .i64 0],h):=by
 have yh:Rd h.dG x (ints l):=rd.mono (vb h)
 have hm:zH l=true:=by
  unfold vh at hc
  by_cases q:zH l=false
  · rw[if_pos q]at hc;omega
  · simpa using q
 have h0:0≤vg l 15:=by
  unfold vh at hc
  rw[if_neg (by rw[hm];decide)]at hc
  by_cases q:vg l 15<0
  · rw[if_pos q]at hc;omega
  · omega
 have hr:=AO hm
 have k:=K0 h.dG x l hl yh hm h0
 obtain⟨g,eg⟩:∃g,g=h.dG.alloc (yA l.length [.int .i64 0,.int .i64 0]):=⟨_,rfl⟩
 have hn:h.dG.next=h.next:=rfl
 have gg:g.get h.next=some ((vY l 1 0).flatMap v9):=by rw[eg,u9 (by simp),Bj,F9]
 have gf:g.floor=h.next:=by rw[eg];simp
 have ln:=rd.len
 rw[pf]at ln
 simp only[I]at ln
 obtain⟨T,eT⟩:∃T,T=mX 49 (v7 l):=⟨_,rfl⟩
 have hT:∀n,1≤n→n≤15→T[n]?=some (.int .i64 (u4 l n)):=fun n _ hn=>by
  rw[eT,fy (by omega),v7,if_pos (by omega)];rfl
 have hS:∀n,n≤15→((T.drop 32).take 16)[n]?=some (yC (ints (syms l n))):=fun n hn=>by
  rw[List.getElem?_take_of_lt (by omega),uI,eT,fy (by omega),v7,if_neg (by omega),if_neg (by omega),if_pos (by omega),show 32+n-32=n by omega]
 have hb:vn l=.aJ T 0:=by rw[eT];rfl
 have lT:T.length=49:=by rw[eT];simp [mX]
 rw[hb]at k
 obtain⟨e',h',L,q1,q2,q3⟩:=E0 hl T ((T.drop 32).take 16) h.next hT hS 15 1 g (by omega) (by omega) (by omega) gg
 have L0:∃e',Lp AP.A [4,6,25,26] AP.f338L1 [(4,.aJ T 0),(6,.aD h.next 0 l.length 2),(25,.agg ((T.drop 32).take 16)),(26,.int .i64 0)] g=some (.exit 0,e',h')∧look e' 6=.aD h.next 0 l.length 2:=by
  refine⟨e',sK ?_ L,q1⟩
  have hs:=hS 0 (by omega)
  have ia:lF false 16 1 (.agg ((T.drop 32).take 16)) (.int .i64 0)=some .aO:=by
   have hs':((T.drop 32).take 16)[0]?=some .aO:=by rw[hs];rfl
   show gE false 1 ((T.drop 32).take 16) 0=_
   unfold gE
   rw[if_neg (by decide)]
   exact hs'
  have Li:Lp AP.A [4,6,7,25,26,30,31,32] AP.f338L0 [(4,.aJ T 0),(6,.aD h.next 0 l.length 2),(7,.int .i64 0),(25,.agg ((T.drop 32).take 16)),(26,.int .i64 0),(30,.aO),(31,.int .i64 0),(32,.int .i64 0)] g=some (.exit 2,[(4,.aJ T 0),(6,.aD h.next 0 l.length 2),(7,.int .i64 0),(25,.agg ((T.drop 32).take 16)),(26,.int .i64 0),(30,.aO),(31,.int .i64 0),(32,.int .i64 0),(33,.bool false)],g):=by
   refine sJ ?_
   simp (disch:=omega)only[go_sem,vo,AP.f338L0]
  clear L q3 hs hT hS
  generalize (T.drop 32).take 16=SS at *
  have Ie:(0:Int)<16:=by omega
  simp (disch:=omega)only[go_sem,vo,AP.f338L1,Ie,ia,DP,rH,Li]
 obtain⟨e0,L0,q0⟩:=L0
 rw[HG hr]at q3
 have ce:(uU l).length=l.length:=by simp [uU]
 have ow:vG 2 h' (.aD h.next 0 l.length 2) l.length ((uU l).flatMap v9):=⟨by rw[AF ya,ce],.inr ⟨h.next,rfl,q3,by omega,by omega⟩⟩
 refine tB (fn:=AP.f338) (h2:=h') (e:=[(2,.aD h.next 0 l.length 2),(3,.int .i64 0)]) (vs:=[.aD h.next 0 l.length 2,.int .i64 0]) rfl rfl rfl ?_ rfl ?_
 · have ld:bN true 16 (.aJ T 32) g=some (.agg ((T.drop 32).take 16)):=by
    show gE true 16 T 32=_
    simp [gE,lT]
   clear ow q3 rd yh hr L hT hS gg
   generalize (T.drop 32).take 16=SS at *
   have ld':gE true 16 T 32=some (.agg SS):=ld
   simp (disch:=omega)only[go_sem,vo,AP.f338,k,ln,←eg,hn,ld',rH,L0,q0]
 · have o':=ow
   rw[zK]at o'
   have s1:=o'.zf (fl:=h.next) (m:=13) (t:=true) (by omega)
   show(fm (snap h'.get h.next 15 true) [.aD h.next 0 l.length 2,.int .i64 0]).bind _=_
   simp only[fm,s1,uo]
   rw[←zK];rfl
theorem H7 (s : ByteArray) (hs : s.size < 32000) : ∀ (f i : Nat) (h : H) (ov : AV) (ts : List Tok), s.size - i ≤ f → i ≤ s.size → ts.length ≤ i → vG 3 h ov ts.length (vB ts) → h.floor ≤ h.next →
 ∃e' h' ov',Lp AP.A [0,4,5] AP.f332L0 [(0,.str s),(4,ov),(5,.int .i64 i)] h=some (.exit 0,e',h')∧look e' 4=ov'∧vG 3 h' ov' (ts++yV s f i).length (vB (ts++yV s f i))∧h'.floor=h.floor∧h.next≤h'.next:=by
 have stop:∀(i:Nat) (h:H) (ov:AV),s.size≤i→∃e',Lp AP.A [0,4,5] AP.f332L0 [(0,.str s),(4,ov),(5,.int .i64 i)] h=some (.exit 0,e',h)∧look e' 4=ov:=by
  intro i h ov hi
  refine⟨[(0,.str s),(4,ov),(5,.int .i64 i),(13,.bool false)],sJ ?_,rfl⟩
  have c:¬(i:Int)<s.size:=by omega
  simp (disch:=omega)only[go_sem,vo,AP.f332L0,vX,c]
 intro f
 induction f with
 | zero =>
   intro i h ov ts hf hi hts o hfn
   obtain⟨e',r1,r2⟩:=stop i h ov (by omega)
   exact⟨e',h,ov,r1,r2,by simpa [yV]using o,rfl,uv _⟩
 | succ f ih =>
   intro i h ov ts hf hi hts o hfn
   by_cases c0:i<s.size
   · have kb:=fun g=>Ki g s i hs c0
     have hb:=zt s i
     have lt:=FV s i
     have le:=FU s i c0
     have bsp:=zq s i (by omega) i (0,0) (uv _) (.inl rfl)
     have hx:=yq (s:=s) (i:=(i:Int)) ⟨by omega,by omega⟩
     rw[show((i:Int)).toNat=i by omega]at hx
     have c0':(i:Int)<s.size:=by omega
     have fin:∀(g:H) (t:Tok) (i':Nat),vZ s i=(t,i')→g.floor=h.floor→g.next=h.next+1→(∀j,j<h.next→g.get j=h.get j)→(∀(v':AV) (h':H),j9 (g.alloc (CY t)) 3 24 ov (.aD g.next 0 1 3)=some (v',h')→h'.get h.next=g.get h.next→aK (aQ AP.A) bo AP.f332L0 (ax [(0,.str s),(4,ov),(5,.int .i64 i)] [0,4,5]) h=some (.normal,[(0,.str s),(4,v'),(5,.int .i64 i')],h'))→
      ∃e' h' ov',Lp AP.A [0,4,5] AP.f332L0 [(0,.str s),(4,ov),(5,.int .i64 i)] h=some (.exit 0,e',h')∧look e' 4=ov'∧vG 3 h' ov' (ts++yV s (f+1) i).length (vB (ts++yV s (f+1) i))∧h'.floor=h.floor∧h.next≤h'.next:=by
      intro g t i' et gf gn gk hstep
      have og:vG 3 g ov ts.length (vB ts):=o.mono gf fun j hj=>gk j (o.lt hj).2
      obtain⟨v',h',p1,p2,p3,p4,p5,p6⟩:=og.push (by omega) (z:=24) (m:=1) (by omega) (by omega) (CY t) rfl rfl (by simp [roomy];omega)
      have hon:ov.id?≠some h.next:=fun q=>by have:=(o.lt q).2;omega
      have step:=hstep v' h' p1 (p5 h.next hon (by omega))
      rw[et]at lt le
      simp only at lt le
      have o2:vG 3 h' v' (ts++[t]).length (vB (ts++[t])):=by rw[CM,uR];exact p2
      obtain⟨e',h2,ov',r1,r2,r3,r4,r5⟩:=ih i' h' v' (ts++[t]) (by omega) le (by simp;omega) o2 (by omega)
      refine⟨e',h2,ov',sK step r1,r2, ?_,by omega,by omega⟩
      rw[yV,if_pos c0,et]
      simpa using r3
     by_cases c1:(vC s i i (0,0)).1<3
     · have et:vZ s i=(⟨wO s i,0,0⟩,i+1):=if_pos c1
       have e1:Du (vC s i i (0,0))=(0,0):=if_pos c1
       rw[e1]at kb
       obtain⟨g,eg⟩:∃g,g=((h.alloc [.int .i64 0,.int .i64 0,.int .i64 0]).set h.next [.int .i64 0,.int .i64 0,.int .i64 0]).set h.next [.int .i64 (wO s i:Nat),.int .i64 0,.int .i64 0]:=⟨_,rfl⟩
       have gg0:g.get h.next=some [.int .i64 (wO s i:Nat),.int .i64 0,.int .i64 0]:=by rw[eg,vi rfl,vi rfl,u9 rfl];rfl
       refine fin g _ _ et (by rw[eg];simp) (by rw[eg];simp) (fun j hj=>by rw[eg,uV (by omega),uV (by omega),u5 (by omega)]) fun v' h' ap gh=> ?_
       rw[gg0]at gh
       simp only[CY,JH,ints,QO,Rj,I]at ap
       have n1:((i+1:Nat):Int)=(i:Int)+1:=by omega
       have m1:Co 1 0=1:=rfl
       have kb':∀g:H,aQ AP.A 344 [.str s,.int .i64 i] g=some (.agg [.int .i64 0,.int .i64 0,.int .i64 0],g):=kb
       have w8:IntKind.wrap .i64 ((wO s i:Nat):Int)=((wO s i:Nat):Int):=wi (by omega)
       have cz:((0:Int)==0)=true:=by decide
       rw[n1]
       clear kb ih o bsp fin lt le
       generalize ((wO s i:Nat):Int)=Y at *
       simp (disch:=first|omega|(simp only[wm,QG,QI,uC,Nat.reduceAdd];first|done|omega|fail)|(simp (disch:=first|omega|(simp only[wm,QG,QI,uC,Nat.reduceAdd];first|done|omega|fail)|fail)only[wm,Bs,QK,QG,QI,uC,Nat.reduceAdd];done)|fail)only[go_sem,vo,Br,]at ap
       simp (disch:=first|omega|(simp only[wm,QG,QI,uC,Nat.reduceAdd,gg0];first|done|omega|fail)|(simp (disch:=first|omega|(simp only[wm,QG,QI,uC,Nat.reduceAdd,gg0];first|done|omega|fail)|fail)only[wm,Bs,QK,QG,QI,uC,Nat.reduceAdd,gg0];done)|fail)only[go_sem,vo,Br,AP.f332L0,vX,c0',kb',hx,Gl,DQ,m1,cz,w8,←eg,gg0,ap,gh]
     · have et:vZ s i=(⟨0,(vC s i i (0,0)).1,(vC s i i (0,0)).2⟩,i+(vC s i i (0,0)).1):=if_neg c1
       have e1:Du (vC s i i (0,0))=vC s i i (0,0):=if_neg c1
       rw[e1]at kb
       have b258:(vC s i i (0,0)).1≤258:=by
        rcases bsp with q|q
        · omega
        · exact q.1
       obtain⟨g,eg⟩:∃g,g=(h.alloc [.int .i64 0,.int .i64 0,.int .i64 0]).set h.next [.int .i64 0,.int .i64 (vC s i i (0,0)).1,.int .i64 (vC s i i (0,0)).2]:=⟨_,rfl⟩
       have gg0:g.get h.next=some [.int .i64 0,.int .i64 (vC s i i (0,0)).1,.int .i64 (vC s i i (0,0)).2]:=by rw[eg,vi rfl,u9 rfl];rfl
       refine fin g _ _ et (by rw[eg];simp) (by rw[eg];simp) (fun j hj=>by rw[eg,uV (by omega),u5 (by omega)]) fun v' h' ap gh=> ?_
       rw[gg0]at gh
       simp only[CY,JH,ints,QO,Rj,I]at ap
       have n1:((i+(vC s i i (0,0)).1:Nat):Int)=(i:Int)+((vC s i i (0,0)).1:Nat):=by omega
       have m1:Co 1 ((vC s i i (0,0)).1:Int)=((vC s i i (0,0)).1:Int):=by unfold Co;split<;>omega
       have cb:(((vC s i i (0,0)).1:Int)==0)=false:=by simp;omega
       rw[n1]
       clear ih o bsp et e1 hx fin lt le
       generalize (vC s i i (0,0)).1=B1 at *
       generalize (vC s i i (0,0)).2=B2 at *
       simp (disch:=first|omega|(simp only[wm,QG,QI,uC,Nat.reduceAdd];first|done|omega|fail)|(simp (disch:=first|omega|(simp only[wm,QG,QI,uC,Nat.reduceAdd];first|done|omega|fail)|fail)only[wm,Bs,QK,QG,QI,uC,Nat.reduceAdd];done)|fail)only[go_sem,vo,Br,]at ap
       simp (disch:=first|omega|(simp only[wm,QG,QI,uC,Nat.reduceAdd,gg0];first|done|omega|fail)|(simp (disch:=first|omega|(simp only[wm,QG,QI,uC,Nat.reduceAdd,gg0];first|done|omega|fail)|fail)only[wm,Bs,QK,QG,QI,uC,Nat.reduceAdd,gg0];done)|fail)only[go_sem,vo,Br,AP.f332L0,vX,c0',kb,cb,Gl,DQ,m1,←eg,gg0,ap,gh]
   · obtain⟨e',r1,r2⟩:=stop i h ov (by omega)
     exact⟨e',h,ov,r1,r2,by simpa [yV,c0]using o,rfl,uv _⟩
theorem H9 (h:H) (s:ByteArray):aQ AP.A 332 [.str s] h=some (if 300<s.size then .bJ [.aO,.int .i64 500]else .bJ [CO (tokens s),.int .i64 0],h):=by
 by_cases c:300<s.size
 · rw[if_pos c]
   refine tB (fn:=AP.f332) (h2:=h.dG) (e:=[(2,.aO),(3,.int .i64 500)]) (vs:=[.aO,.int .i64 500]) rfl rfl rfl ?_ rfl rfl
   have c':(300:Int)<s.size:=by omega
   simp (disch:=omega)only[go_sem,vo,AP.f332,vX,c']
 · rw[if_neg c]
   obtain⟨e',h',ov',r1,r2,r3,r4,r5⟩:=H7 s (by omega) s.size 0 h.dG .aO [] (by omega) (by omega) (by simp) vG.nil (by simp)
   have r1':Lp AP.A [0,4,5] AP.f332L0 [(0,.str s),(4,.aO),(5,.int .i64 0)] h.dG=some (.exit 0,e',h'):=r1
   clear r1
   rw[List.nil_append]at r3
   refine tB (fn:=AP.f332) (h2:=h') (e:=[(2,ov'),(3,.int .i64 0)]) (vs:=[ov',.int .i64 0]) rfl rfl rfl ?_ rfl ?_
   · have c':¬(300:Int)<s.size:=by omega
     simp (disch:=omega)only[go_sem,vo,AP.f332,vX,c',rH,r1',r2]
   · have o':=r3
     rw[zT]at o'
     have s1:=o'.zf (fl:=h.next) (m:=13) (t:=true) (by rw[r4];simp)
     show(fm (snap h'.get h.next 15 true) [ov',.int .i64 0]).bind _=_
     simp only[fm,s1,uo]
     rw[←zT];rfl
theorem Fk {P:List Nat} {i b:Nat} (h:i%8=0) (hl:P.length=i/8):vI P i b=P++[b]:=by
 unfold vI
 rw[if_pos h]
 dsimp only
 rw[←hl,h]
 rw[QF,QR (uv _),Nat.sub_self]
 rw[List.set_append_right _ _ (uv _),Nat.sub_self]
 simp
theorem Ec {P:List Nat} {a i b:Nat} (h:¬i%8=0) (hl:P.length=i/8):vI (P++[a]) i b=P++[a|||b* 2^(i%8)]:=by
 unfold vI
 rw[if_neg h]
 dsimp only
 rw[←hl]
 rw[QF,QR (uv _),Nat.sub_self]
 rw[List.set_append_right _ _ (uv _),Nat.sub_self]
 simp
theorem P6:∀b,b<256→b/2^0%2|||b/2^1%2* 2^1|||b/2^2%2* 2^2|||b/2^3%2* 2^3|||b/2^4%2* 2^4|||b/2^5%2* 2^5|||b/2^6%2* 2^6|||b/2^7%2* 2^7=b:=by decide+kernel
theorem Gm {bs:List Nat} (h:bs.length%8=0) {b:Nat} (hb:b<256):vm (bs++vj b 8)=vm bs++[b]:=by
 have pl:=wS bs
 have e:vm (bs++vj b 8)=wu (vj b 8) bs.length (vm bs):=by
  unfold vm;rw[zJ,uC]
 rw[e]
 obtain⟨n,hn⟩:∃n,n=bs.length:=⟨_,rfl⟩
 rw[←hn]at h pl ⊢
 generalize vm bs=P at *
 have lP:P.length=n/8:=by omega
 show wu [b/2^0%2,b/2^1%2,b/2^2%2,b/2^3%2,b/2^4%2,b/2^5%2,b/2^6%2,b/2^7%2] n P=_
 have m:∀k,1≤k→k<8→(n+k)%8=k∧P.length=(n+k)/8:=fun k h1 h2=>by omega
 simp only[wu]
 rw[Fk h lP]
 have st:∀k a c,1≤k→k<8→vI (P++[a]) (n+k) c=P++[a|||c* 2^k]:=fun k a c h1 h2=>by
  obtain⟨m1,m2⟩:=m k h1 h2
  rw[Ec (by omega) m2,m1]
 rw[st 1 _ _ (by omega) (by omega)]
 rw[show n+1+1=n+2 by omega,st 2 _ _ (by omega) (by omega)]
 rw[show n+2+1=n+3 by omega,st 3 _ _ (by omega) (by omega)]
 rw[show n+3+1=n+4 by omega,st 4 _ _ (by omega) (by omega)]
 rw[show n+4+1=n+5 by omega,st 5 _ _ (by omega) (by omega)]
 rw[show n+5+1=n+6 by omega,st 6 _ _ (by omega) (by omega)]
 rw[show n+6+1=n+7 by omega,st 7 _ _ (by omega) (by omega)]
 rw[P6 b hb]
def xf (s:ByteArray) (i:Nat):List Nat:=(List.range i).flatMap fun k=>vj (wO s k) 8
theorem zX (s:ByteArray) (i:Nat):xf s (i+1)=xf s i++vj (wO s i) 8:=by simp [xf,List.range_succ]
theorem A7 (s:ByteArray):∀i,(xf s i).length=8* i
 |0=>rfl
 |i+1=>by rw[zX,uR,A7 s i];simp [vj,vt];omega
theorem Bh (bs:List Nat) (h:bs.length%8=0) (s:ByteArray):∀i,vm (bs++xf s i)=vm bs++preB s i
 |0=>by simp [xf,preB]
 | i + 1 => by
   rw[zX,←QS,Gm (by rw[uR,A7];omega) (zt s i),Bh bs h s i,y9,QS]
theorem EG (s:ByteArray):bytesOf (preB s s.size)=s:=by
 apply ByteArray.ext
 apply Array.ext
 · have:=vH (preB s s.size)
   rw[wK]at this
   exact this
 · intro i h1 h2
   simp only[bytesOf,preB,List.map_map,List.getElem_toArray,List.getElem_map,List.getElem_range,Function.comp_apply]
   have hi:i<s.size:=h2
   unfold wO
   rw[show s[i]?=some s[i]by simp [hi]]
   simp
   rfl
theorem BJ (a b:List Nat):bytesOf (a++b)=bytesOf a++bytesOf b:=by
 apply ByteArray.ext
 simp [bytesOf,ByteArray.data_append]
theorem FL (s:ByteArray):bytesOf (vm (we s.size++xf s s.size))=yz s:=by
 have l:(we s.size).length=40:=by simp [we,vj,vt]
 rw[Bh _ (by omega),BJ,EG];rfl
theorem Hm (s:ByteArray) (hs:s.size≤300) (h0:H) (w:Nat):∀(m i:Nat) (bs:List Nat) (h:H) (ov:AV),i+m=s.size→WX h0 h w bs ov→bs.length+8* m≤60000→
 ∃h' ov',Lp AP.A [0,4,5,25,26] AP.f325L0 [(0,.str s),(4,.aC w 0),(5,.fn 335 [.aC w 0] []),(25,.int .i64 s.size),(26,.int .i64 i)] h=some (.exit 0,[(0,.str s),(4,.aC w 0),(5,.fn 335 [.aC w 0] []),(25,.int .i64 s.size),(26,.int .i64 s.size),(27,.bool false)],h')∧WX h0 h' w (bs++((List.range' i m).flatMap fun k=>vj (wO s k) 8)) ov'
 | 0, i, bs, h, ov, hi, x, hb => by
   obtain rfl:i=s.size:=by omega
   refine⟨h,ov,sJ ?_,by simpa using x⟩
   simp (disch:=omega)only[go_sem,vo,AP.f325L0]
 | m + 1, i, bs, h, ov, hi, x, hb => by
   have bl:=zt s i
   obtain⟨h1,o1,k1,w1,f1⟩:=xb x.wr (wO s i) 8 (by omega) (by omega) (by omega)
   obtain⟨h',ov',L,x2⟩:=Hm s hs h0 w m (i+1) (bs++vj (wO s i) 8) h1 o1 (by omega) (x.step w1 f1) (by simp [vj,vt];omega)
   refine⟨h',ov',sK ?_ L,by rw[List.range'_succ,QM,←QS];exact x2⟩
   have hx:=yq (s:=s) (i:=(i:Int)) ⟨by omega,by omega⟩
   rw[show((i:Int)).toNat=i by omega]at hx
   have c0:(i:Int)<s.size:=by omega
   have w8:IntKind.wrap .i64 ((wO s i:Nat):Int)=((wO s i:Nat):Int):=wi (by omega)
   have k1':aQ AP.A 335 [.aC w 0,.int .i64 (wO s i:Nat),.int .i64 8] h=some (.int .i64 0,h1):=k1
   have n1:((i+1:Nat):Int)=(i:Int)+1:=by omega
   rw[n1]
   clear x x2 L w1 f1 k1
   generalize ((wO s i:Nat):Int)=Y at *
   simp (disch:=omega)only[go_sem,vo,AP.f325L0,c0,hx,w8,k1']
theorem Kr:∀n:Nat,n≤300→bits .xor .i64 (n:Int) 65535=65535-(n:Int):=by
 intro n hn
 have:∀n:Nat,n<301→decide (bits .xor .i64 ((n:Nat):Int) 65535=65535-((n:Nat):Int))=true:=by decide+kernel
 exact of_decide_eq_true (this n (by omega))
theorem H6 (h:H) (s:ByteArray):aQ AP.A 325 [.str s] h=some (if 300<s.size then .bJ [.str ⟨#[]⟩,.int .i64 800]else .bJ [.str (yz s),.int .i64 0],h):=by
 by_cases c:300<s.size
 · rw[if_pos c]
   have c':(300:Int)<s.size:=by omega
   refine tB (fn:=AP.f325) (h2:=h.dG) (e:=[(2,.str ⟨#[]⟩),(3,.int .i64 800)]) (vs:=[.str ⟨#[]⟩,.int .i64 800]) rfl rfl rfl ?_ rfl rfl
   simp (disch:=omega)only[go_sem,vo,AP.f325,vX,c']
 · rw[if_neg c]
   obtain⟨h1,o1,k1,x1,f1⟩:=GH (h:=h.dG) rfl 0 (by omega)
   have e0:vj 1 1++vj 0 2=vj 1 3:=by decide
   rw[e0]at x1
   obtain⟨h2,k2,w2,r2⟩:=Jf x1.wr 5 (by simp [vj,vt]) (by omega) (by simp [vj,vt])
   have x2:=x1.step w2 r2
   obtain⟨h3,o3,k3,w3,r3⟩:=xb x2.wr s.size 16 (by omega) (by omega) (by simp [vj,vt])
   have x3:=x2.step w3 r3
   obtain⟨h4,o4,k4,w4,r4⟩:=xb x3.wr (65535-s.size) 16 (by omega) (by omega) (by simp [vj,vt])
   have x4:=x3.step w4 r4
   have ee:vj 1 3++List.replicate 5 0++vj s.size 16++vj (65535-s.size) 16=we s.size:=by unfold we;simp only[QS]
   rw[ee]at x4
   obtain⟨h5,o5,L,x5⟩:=Hm s (by omega) h.dG h.dG.next s.size 0 _ h4 o4 (by omega) x4 (by simp [we,vj,vt];omega)
   have eb:we s.size++((List.range' 0 s.size).flatMap fun k=>vj (wO s k) 8)=we s.size++xf s s.size:=by unfold xf;rw[List.range_eq_range']
   rw[eb]at x5
   have k6:=Hd x5.wr
   rw[FL s]at k6
   have hN:h.dG.next=h.next:=rfl
   rw[hN]at k1 k2 k3 k4 L k6
   have c':¬(300:Int)<s.size:=by omega
   have k1':aQ AP.A 333 [.int .i64 0] h.dG=some (.aC h.next 0,h1):=k1
   have k3':aQ AP.A 335 [.aC h.next 0,.int .i64 s.size,.int .i64 16] h2=some (.int .i64 0,h3):=k3
   have xo:=Kr s.size (by omega)
   have e4:((65535-s.size:Nat):Int)=65535-(s.size:Int):=by omega
   rw[e4]at k4
   have k4':aQ AP.A 335 [.aC h.next 0,.int .i64 (65535-(s.size:Int)),.int .i64 16] h3=some (.int .i64 0,h4):=k4
   have L':Lp AP.A [0,4,5,25,26] AP.f325L0 [(0,.str s),(4,.aC h.next 0),(5,.fn 335 [.aC h.next 0] []),(25,.int .i64 s.size),(26,.int .i64 0)] h4=_:=L
   refine tB (fn:=AP.f325) (h2:=h5) (e:=[(2,.str (yz s)),(3,.int .i64 0)]) (vs:=[.str (yz s),.int .i64 0]) rfl rfl rfl ?_ rfl rfl
   clear x1 x2 x3 x4 x5 w2 w3 w4 r2 r3 r4 L k1 k3 k4 ee eb e0
   generalize yz s=TT at *
   generalize 65535-(s.size:Int)=Z at *
   simp (disch:=omega)only[go_sem,vo,AP.f325,vX,c',k1',k2,k3',xo,k4',rH,L',k6]
end Ab
