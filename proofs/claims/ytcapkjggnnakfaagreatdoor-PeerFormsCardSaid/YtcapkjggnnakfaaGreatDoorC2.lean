/- Part C2. -/
import Derived.Test.YtcapkjggnnakfaaGreatDoorC1
set_option linter.unusedSimpArgs false
set_option linter.unusedVariables false
set_option maxRecDepth 100000
namespace Ab
open Go
theorem MR {k:IntKind} {i:Int} {n:Nat} (h:0≤i∧i<n):da (.int k i) n=some i.toNat:=by simp [da,ni,h]
def okB (b:Nat):Bool:=decide (97≤b∧b≤122∨48≤b∧b≤57∨b=46∨b=45∨b=95)
def wN (s:ByteArray):Nat→Nat→Bool
 |0,_=>false
 |n+1,i=>decide (i=xC s n)||wN s n i
def HM:ByteArray:=⟨#[97,98,99,100,101,102,103,104,105,106,107,108,109,110,111,112,113,114,115,116,117,118,119,120,121,122,48,49,50,51,52,53,54,55,56,57,46,45,95]⟩
def bT (P:Nat→Bool):List AV:=mY 256 fun i=>.bool (P i)
theorem yL (P:Nat→Bool):(bT P).length=256:=by simp [bT]
theorem IL (P:Nat→Bool) {i:Nat} (h:i<256):(bT P)[i]?=some (.bool (P i)):=fK h
theorem IP (s:ByteArray) (n:Nat):(bT (wN s n)).set (xC s n) (.bool true)=bT (wN s (n+1)):=by
 unfold bT
 rw[te (yN s n)]
 congr 1
 funext i
 have e:wN s (n+1) i=(decide (i=xC s n)||wN s n i):=rfl
 rw[e]
 unfold tF
 by_cases h:i=xC s n
 · simp [h]
 · simp [h]
theorem MU:bT (wN HM 39)=bT okB:=by
 unfold bT mY
 refine List.map_congr_left fun i hi=> ?_
 have hi':i<256:=List.mem_range.1 hi
 have:∀i,i<256→wN HM 39 i=okB i:=by decide+kernel
 rw[this i hi']
theorem Au (g:Nat→Option (List AV)) (fl n:Nat) (t:Bool):∀l:List Bool,fB (snap g fl (n+1) t) (l.map .bool)=some (l.map .bool)
 |[]=>rfl
 | b :: l => by
   have:=Au g fl n t l
   simp only[Qz,fB,this];rfl
theorem HI (g:Nat→Option (List AV)) (fl n:Nat) (t:Bool) (P:Nat→Bool):fB (snap g fl (n+1) t) (bT P)=some (bT P):=by
 have e:bT P=((List.range 256).map P).map .bool:=by unfold bT mY;rw[List.map_map];rfl
 rw[e];exact Au g fl n t _
theorem Fj (e:Env):aX e (.alloc [.bool false,.bool false,.bool false,.bool false,.bool false,.bool false,.bool false,.bool false,.bool false,.bool false,.bool false,.bool false,.bool false,.bool false,.bool false,.bool false,.bool false,.bool false,.bool false,.bool false,.bool false,.bool false,.bool false,.bool false,.bool false,.bool false,.bool false,.bool false,.bool false,.bool false,.bool false,.bool false,.bool false,.bool false,.bool false,.bool false,.bool false,.bool false,.bool false,.bool false,.bool false,.bool false,.bool false,.bool false,.bool false,.bool false,.bool false,.bool false,.bool false,.bool false,.bool false,.bool false,.bool false,.bool false,.bool false,.bool false,.bool false,.bool false,.bool false,.bool false,.bool false,.bool false,.bool false,.bool false,.bool false,.bool false,.bool false,.bool false,.bool false,.bool false,.bool false,.bool false,.bool false,.bool false,.bool false,.bool false,.bool false,.bool false,.bool false,.bool false,.bool false,.bool false,.bool false,.bool false,.bool false,.bool false,.bool false,.bool false,.bool false,.bool false,.bool false,.bool false,.bool false,.bool false,.bool false,.bool false,.bool false,.bool false,.bool false,.bool false,.bool false,.bool false,.bool false,.bool false,.bool false,.bool false,.bool false,.bool false,.bool false,.bool false,.bool false,.bool false,.bool false,.bool false,.bool false,.bool false,.bool false,.bool false,.bool false,.bool false,.bool false,.bool false,.bool false,.bool false,.bool false,.bool false,.bool false,.bool false,.bool false,.bool false,.bool false,.bool false,.bool false,.bool false,.bool false,.bool false,.bool false,.bool false,.bool false,.bool false,.bool false,.bool false,.bool false,.bool false,.bool false,.bool false,.bool false,.bool false,.bool false,.bool false,.bool false,.bool false,.bool false,.bool false,.bool false,.bool false,.bool false,.bool false,.bool false,.bool false,.bool false,.bool false,.bool false,.bool false,.bool false,.bool false,.bool false,.bool false,.bool false,.bool false,.bool false,.bool false,.bool false,.bool false,.bool false,.bool false,.bool false,.bool false,.bool false,.bool false,.bool false,.bool false,.bool false,.bool false,.bool false,.bool false,.bool false,.bool false,.bool false,.bool false,.bool false,.bool false,.bool false,.bool false,.bool false,.bool false,.bool false,.bool false,.bool false,.bool false,.bool false,.bool false,.bool false,.bool false,.bool false,.bool false,.bool false,.bool false,.bool false,.bool false,.bool false,.bool false,.bool false,.bool false,.bool false,.bool false,.bool false,.bool false,.bool false,.bool false,.bool false,.bool false,.bool false,.bool false,.bool false,.bool false,.bool false,.bool false,.bool false,.bool false,.bool false,.bool false,.bool false,.bool false,.bool false,.bool false,.bool false,.bool false,.bool false,.bool false,.bool false,.bool false,.bool false,.bool false,.bool false,.bool false,.bool false,.bool false,.bool false,.bool false,.bool false,.bool false,.bool false,.bool false,.bool false,.bool false])=some (bT fun _=>false,fun i=>.aC i 0):=rfl
theorem DW (s:ByteArray) (hs:s.size<100000) (h7:∀i,i<s.size→xC s i<128) (id:Nat):∀(m n:Nat) (h:H),n+m=s.size→h.get id=some (bT (wN s n))→h.floor≤id→
 ∃e' h',Lp AP.A [0,2,4] AP.f127L0 [(0,.str s),(2,.aC id 0),(4,.int .i64 n)] h=some (.exit 0,e',h')∧look e' 2=.aC id 0∧h'.get id=some (bT (wN s s.size))∧h'.floor=h.floor
 | 0, n, h, hn, hg, hf => by
   obtain rfl:n=s.size:=by omega
   refine⟨[(0,.str s),(2,.aC id 0),(4,.int .i64 s.size),(9,.bool false)],h,sN ?_,rfl,hg,rfl⟩
   simp (disch:=omega)only[go_sem,uX,AP.f127L0]
 | m + 1, n, h, hn, hg, hf => by
   have g2:(h.set id (bT (wN s (n+1)))).get id=some (bT (wN s (n+1))):=by rw[uZ rfl,hg];rfl
   obtain⟨e',h',r1,r2,r3,r4⟩:=DW s hs h7 id m (n+1) _ (by omega) g2 (by simpa using hf)
   have n1:((n+1:Nat):Int)=(n:Int)+1:=by omega
   have hb:=yN s n
   have hb7:=h7 n (by omega)
   have ia:da (.int .u8 (xC s n:Nat)) 256=some (xC s n):=by rw[MR (by omega)];rfl
   have st:tD h id (xC s n) 1 [.bool true] (some (bT (wN s n)))=some (h.set id (bT (wN s (n+1)))):=by rw[tV hf (by rw[yL];exact hb) rfl,IP]
   refine⟨e',h',sP ?_ r1,r2,r3,by rw[r4];simp⟩
   rw[n1]
   generalize bT (wN s n)=T at *
   generalize bT (wN s (n+1))=T2 at *
   simp (disch:=omega)only[go_sem,uX,AP.f127L0,ia,hg,st]
theorem vE {h:H} {id n:Nat} {v cs:List AV} (hf:h.floor≤id) (hv:v.length=n) (hc:cs.length=n) (hs:AV.aB v=true):tD h id 0 n v (some cs)=some (h.set id v):=by
 rw[GJ]
 have e:setFrom cs 0 v=v:=by
  have:=xw cs v [] [] (by omega)
  simpa using this
 simp [hf,hv,hc,hs,e,wh]
theorem Ib (P:Nat→Bool):AV.aB (bT P)=true:=by
 have e:bT P=((List.range 256).map P).map .bool:=by unfold bT mY;rw[List.map_map];rfl
 rw[e]
 generalize (List.range 256).map P=l
 induction l with
 |nil=>rfl
 |cons b l ih=>simp [ih]
theorem Mt (P:Nat→Bool):gY true 256 (bT P) 0=some (.agg (bT P)):=by
 simp only[gY,if_true]
 rw[if_pos (by rw[yL];omega),Qs,uI (by rw[yL];omega)]
theorem HK (h:H) (s:ByteArray) (hs:s.size<100000) (h7:∀i,i<s.size→xC s i<128):aQ AP.A 127 [.str s] h=some (.bO [.agg (bT (wN s s.size)),.bool true],h):=by
 obtain⟨h1,eh1⟩:∃g,g=h.dU.alloc (bT fun _=>false):=⟨_,rfl⟩
 have g1:h1.get h.next=some (bT (wN s 0)):=by rw[eh1,uW (by simp)];rfl
 obtain⟨e',h',r1,r2,r3,r4⟩:=DW s hs h7 h.next s.size 0 h1 (by omega) g1 (by rw[eh1];simp)
 have r1':Lp AP.A [0,2,4] AP.f127L0 [(0,.str s),(2,.aC h.next 0),(4,.int .i64 0)] h1=some (.exit 0,e',h'):=r1
 clear r1
 obtain⟨h2,eh2⟩:∃g,g=h'.set h.next (bT (wN s s.size)):=⟨_,rfl⟩
 have st:tD h' h.next 0 256 (bT (wN s s.size)) (some (bT (wN s s.size)))=some h2:=by
  rw[vE (by rw[r4,eh1];simp) (yL _) (yL _) (Ib _),eh2]
 have g2:h2.get h.next=some (bT (wN s s.size)):=by rw[eh2,uZ rfl,r3];rfl
 have hn:h.dU.next=h.next:=rfl
 have rd:=Mt (wN s s.size)
 refine tB (fn:=AP.f127) (h2:=h2) (e:=[(2,.aC h.next 0),(3,.bool true)]) (vs:=[.agg (bT (wN s s.size)),.bool true]) rfl rfl rfl ?_ ?_ ?_
 · generalize bT (wN s s.size)=T at *
   simp (disch:=omega)only[go_sem,AP.f127,Fj,hn,←eh1,rH,r1',r2,r3,rd,st]
 · simp only[AP.f127,cJ,mP,mD,qk,g2,sI,rd,kQ,ne_eq,Nat.reduceEqDiff,not_false_eq_true]
   rfl
 · show(fB (snap h2.get h.next 15 true) [.agg (bT (wN s s.size)),.bool true]).bind _=_
   have m1:snap h2.get h.next 15 true (.agg (bT (wN s s.size)))=some (.agg (bT (wN s s.size))):=by
    unfold snap;rw[HI];rfl
   simp only[fB,m1];rfl
theorem Ij (h:H) (id b:Nat) (P:Nat→Bool) (hg:h.get id=some (bT P)) (hb:b<256):aQ AP.A 132 [.aC id 0,.int .u8 b] h=some (.bool (P b),h):=by
 have ia:da (.int .u8 b) 256=some b:=by rw[MR (by omega)];congr 1
 have g:=IL P hb
 refine ta (fn:=AP.f132) (h2:=h) (e:=[(4,.bool (P b))]) (vs:=[.bool (P b)]) rfl rfl rfl ?_ rfl
 generalize bT P=T at *
 simp (disch:=omega)only[go_sem,uX,AP.f132,ia,hg,g]
theorem Fh {s:ByteArray} {n:Nat} (hn:n≤s.size):nj (.str s) none (some (.int .i64 n))=some (.str (s.extract 0 n)):=Ha hn
theorem Hb {s:ByteArray} {n:Nat} (hn:n≤s.size):nj (.str s) (some (.int .i64 n)) none=some (.str (s.extract n s.size)):=by
 have:j7 (.int .i64 n) s.size=some n:=C8 hn
 simp [nj,aA,this]
theorem zZ {s:ByteArray} {a b i:Nat} (hb:b≤s.size) (hi:a+i<b):xC (s.extract a b) i=xC s (a+i):=by
 have e:(s.extract a b)[i]?=s[a+i]?:=by
  show(s.extract a b).data[i]?=s.data[a+i]?
  rw[ByteArray.data_extract,Array.getElem?_extract]
  have:s.data.size=s.size:=rfl
  rw[if_pos (by omega)]
 unfold xC;rw[e]
theorem zq {s:ByteArray} {a b:Nat} (hb:b≤s.size):(s.extract a b).size=b-a:=by simp [ByteArray.size_extract];omega
theorem DR (s:ByteArray):s.extract 0 s.size=s:=by
 apply ByteArray.ext
 rw[ByteArray.data_extract]
 exact Array.extract_size
theorem Hv (s:ByteArray) {n m:Nat} (hm:m≤n):(s.extract 0 n).extract 0 m=s.extract 0 m:=by
 apply ByteArray.ext
 rw[ByteArray.data_extract,ByteArray.data_extract,ByteArray.data_extract,Array.extract_extract]
 simp [hm]
theorem AE (id : Nat) (P : Nat → Bool) (h : H) (hg : h.get id = some (bT P)) : ∀ (n : Nat) (s : ByteArray), s.size = n → n < 100000 →
 ∃e' m,Lp AP.A [0,1] AP.f129L0 [(0,.str s),(1,.aC id 0)] h=some (.exit 0,e',h)∧look e' 0=.str (s.extract 0 m)∧m≤s.size∧(∀i,m≤i→i<s.size→P (xC s i)=true)∧(0<m→P (xC s (m-1))=false)
 | 0, s, hs, hn => by
   refine⟨[(0,.str s),(1,.aC id 0),(7,.bool false)],0,sN ?_, ?_,by omega,fun i h1 h2=>by omega,fun q=>by omega⟩
   · simp (disch:=omega)only[go_sem,uX,AP.f129L0]
   · show AV.str s=_
     congr 1
     have:=DR s
     rw[hs]at this
     exact this.symm
 | n + 1, s, hs, hn => by
   have hb:=yN s n
   have k1:=Ij h id (xC s n) P hg hb
   have n1:(s.size:Int)-1=(n:Int):=by omega
   have sl:=Fh (s:=s) (n:=n) (by omega)
   by_cases c:P (xC s n)=true
   · rw [c] at k1
     obtain⟨e',m,r1,r2,r3,r4,r5⟩:=AE id P h hg n (s.extract 0 n) (by rw[zq (by omega)];omega) (by omega)
     rw[zq (by omega)]at r3 r4
     refine⟨e',m,sP ?_ r1, ?_,by omega,fun i h1 h2=> ?_,fun q=> ?_⟩
     · simp (disch:=omega)only[go_sem,uX,AP.f129L0,n1,k1,sl]
     · rw[r2];congr 1;exact Hv s r3
     · by_cases hi:i=n
       · rw[hi];exact c
       · have:=r4 i h1 (by omega)
         rwa [zZ (by omega) (by omega),uy]at this
     · have:=r5 q
       rwa [zZ (by omega) (by omega),uy]at this
   · have c':P (xC s n)=false:=by simpa using c
     rw[c']at k1
     refine⟨[(0,.str s),(1,.aC id 0),(15,.bool true)],s.size,sN ?_, ?_,ur _,fun i h1 h2=>by omega,fun q=>by rw[hs];exact c'⟩
     · simp (disch:=omega)only[go_sem,uX,AP.f129L0,n1,k1]
     · show AV.str s=_
       congr 1
       exact(DR s).symm
theorem Ks (s:ByteArray) {n:Nat} (h:s.size=n+1):(s.extract 1 s.size).size=n:=by rw[zq (ur _)];omega
theorem Bh (id : Nat) (P : Nat → Bool) (h : H) (hg : h.get id = some (bT P)) : ∀ (n : Nat) (s : ByteArray), s.size = n → n < 100000 → (0 < n → P (xC s (n - 1)) = false) →
 ∃e' r,Lp AP.A [0,1] AP.f128L0 [(0,.str s),(1,.aC id 0)] h=some (.exit 0,e',h)∧look e' 0=.str r∧(r.size=0↔n=0)
 | 0, s, hs, hn, hp => by
   refine⟨[(0,.str s),(1,.aC id 0),(7,.bool false)],s,sN ?_,rfl,by omega⟩
   simp (disch:=omega)only[go_sem,uX,AP.f128L0]
 | n + 1, s, hs, hn, hp => by
   have hb:=yN s 0
   have k1:=Ij h id (xC s 0) P hg hb
   have sl:nj (.str s) (some (.int .i64 1)) none=some (.str (s.extract 1 s.size)):=Hb (s:=s) (n:=1) (by omega)
   have ix:lS (.str s) (.int .i64 0)=some (.int .u8 (xC s 0:Nat)):=BN (by omega)
   by_cases c:P (xC s 0)=true
   · rw[c]at k1
     have hn0:n≠0:=fun e=>by subst e;have:=hp (by omega);simp only[uy,Nat.sub_self]at this;rw[c]at this;cases this
     obtain⟨e',r,r1,r2,r3⟩:=Bh id P h hg n (s.extract 1 s.size) (Ks s hs) (by omega) (fun q=>by
      rw[zZ (ur _) (by omega),show 1+(n-1)=n+1-1 by omega];exact hp (by omega))
     refine⟨e',r,sP ?_ r1,r2,by omega⟩
     clear hp
     simp (disch:=omega)only[go_sem,dt,df,yX,AP.f128L0,k1,sl,ix,Qp,QC]
   · have c':P (xC s 0)=false:=by simpa using c
     rw[c']at k1
     refine⟨[(0,.str s),(1,.aC id 0),(12,.bool true)],s,sN ?_,rfl,by omega⟩
     clear hp
     simp (disch:=omega)only[go_sem,dt,df,yX,AP.f128L0,k1,sl,ix,Qp,QC]
def Ac (s:ByteArray):Bool:=(List.range s.size).all fun i=>okB (xC s i)
theorem Aw:HM.size=39:=rfl
theorem IM:bT (wN HM HM.size)=bT okB:=MU
theorem OW (h:H) (s:ByteArray) (id:Nat) (P:Nat→Bool) (hg:h.get id=some (bT P)) (hs:s.size<100000) (hp:0<s.size→P (xC s (s.size-1))=false):∃r,aQ AP.A 128 [.str s,.aC id 0] h=some (.str r,h)∧(r.size=0↔s.size=0):=by
 obtain⟨e',r,r1,r2,r3⟩:=Bh id P h hg s.size s rfl hs hp
 refine⟨r,ta (fn:=AP.f128) (h2:=h) (e:=[(4,.str r)]) (vs:=[.str r]) rfl rfl rfl ?_ rfl,r3⟩
 clear hp
 simp only[go_sem,AP.f128,rH,r1,r2]
theorem OX (h:H) (s:ByteArray) (id:Nat) (P:Nat→Bool) (hg:h.get id=some (bT P)) (hs:s.size<100000):
 ∃m,aQ AP.A 129 [.str s,.aC id 0] h=some (.str (s.extract 0 m),h)∧m≤s.size∧(∀i,m≤i→i<s.size→P (xC s i)=true)∧(0<m→P (xC s (m-1))=false):=by
 obtain⟨e',m,r1,r2,r3,r4,r5⟩:=AE id P h hg s.size s rfl hs
 refine⟨m,ta (fn:=AP.f129) (h2:=h) (e:=[(4,.str (s.extract 0 m))]) (vs:=[.str (s.extract 0 m)]) rfl rfl rfl ?_ rfl,r3,r4,r5⟩
 simp only[go_sem,AP.f129,rH,r1,r2]
theorem Cc {a b:ByteArray} (h:a≠b):(a.data.toList==b.data.toList)=false:=by
 rw[beq_eq_false_iff_ne]
 intro e
 apply h
 apply ByteArray.ext
 exact Array.toList_inj.1 e
theorem Db (a:ByteArray):(a.data.toList==a.data.toList)=true:=by simp
theorem MD (h : H) (s : ByteArray) (h0 : 0 < s.size) (hs : s.size < 100000) : ∃ r, aQ AP.A 124 [.str s, .str HM] h = some (.str r, h) ∧ (r.size = 0 ↔ Ac s = true) := by
 have m1:=HK h.dU HM (by rw[Aw];omega) (by rw[Aw];decide+kernel)
 rw[IM]at m1
 obtain⟨h1,eh1⟩:∃g,g=h.dU.alloc (bT fun _=>false):=⟨_,rfl⟩
 have hn:h.dU.next=h.next:=rfl
 have g1:h1.get h.next=some (bT fun _=>false):=by rw[eh1,uW (by simp)]
 obtain⟨h2,eh2⟩:∃g,g=h1.set h.next (bT okB):=⟨_,rfl⟩
 have st:tD h1 h.next 0 256 (bT okB) (some (bT fun _=>false))=some h2:=by
  rw[vE (by rw[eh1];simp) (yL _) (yL _) (Ib _),eh2]
 have g2:h2.get h.next=some (bT okB):=by rw[eh2,uZ rfl,g1];rfl
 obtain⟨m,a1,a2,a3,a4⟩:=OX h2 s h.next okB g2 hs
 have sz:=zq (s:=s) (a:=0) (b:=m) a2
 obtain⟨r,b1,b2⟩:=OW h2 (s.extract 0 m) h.next okB g2 (by omega) (fun q=>by
  rw[sz,Nat.sub_zero,zZ a2 (by omega),uy];exact a4 (by omega))
 refine⟨r, ?_, ?_⟩
 · have e1:bp .eql (.str s) (.str ⟨#[]⟩)=some (.bool false):=by
    rw[yE,Cc];intro e;rw[e]at h0;exact absurd h0 (by decide)
   have e2:bp .eql (.str HM) (.str ⟨#[]⟩)=some (.bool false):=by
    rw[yE,Cc];intro e;have:=Aw;rw[e]at this;exact absurd this (by decide)
   have l2:iY true (.str HM)=some (.int .i64 39):=rfl
   refine tB (fn:=AP.f124) (h2:=h2) (e:=[(4,.str r)]) rfl rfl rfl ?_ rfl rfl
   clear a3 a4
   generalize bT okB=T at *
   generalize hT:(bT fun _=>false)=T0 at *
   have ba:∀e:Env,aX e (.alloc [.bool false,.bool false,.bool false,.bool false,.bool false,.bool false,.bool false,.bool false,.bool false,.bool false,.bool false,.bool false,.bool false,.bool false,.bool false,.bool false,.bool false,.bool false,.bool false,.bool false,.bool false,.bool false,.bool false,.bool false,.bool false,.bool false,.bool false,.bool false,.bool false,.bool false,.bool false,.bool false,.bool false,.bool false,.bool false,.bool false,.bool false,.bool false,.bool false,.bool false,.bool false,.bool false,.bool false,.bool false,.bool false,.bool false,.bool false,.bool false,.bool false,.bool false,.bool false,.bool false,.bool false,.bool false,.bool false,.bool false,.bool false,.bool false,.bool false,.bool false,.bool false,.bool false,.bool false,.bool false,.bool false,.bool false,.bool false,.bool false,.bool false,.bool false,.bool false,.bool false,.bool false,.bool false,.bool false,.bool false,.bool false,.bool false,.bool false,.bool false,.bool false,.bool false,.bool false,.bool false,.bool false,.bool false,.bool false,.bool false,.bool false,.bool false,.bool false,.bool false,.bool false,.bool false,.bool false,.bool false,.bool false,.bool false,.bool false,.bool false,.bool false,.bool false,.bool false,.bool false,.bool false,.bool false,.bool false,.bool false,.bool false,.bool false,.bool false,.bool false,.bool false,.bool false,.bool false,.bool false,.bool false,.bool false,.bool false,.bool false,.bool false,.bool false,.bool false,.bool false,.bool false,.bool false,.bool false,.bool false,.bool false,.bool false,.bool false,.bool false,.bool false,.bool false,.bool false,.bool false,.bool false,.bool false,.bool false,.bool false,.bool false,.bool false,.bool false,.bool false,.bool false,.bool false,.bool false,.bool false,.bool false,.bool false,.bool false,.bool false,.bool false,.bool false,.bool false,.bool false,.bool false,.bool false,.bool false,.bool false,.bool false,.bool false,.bool false,.bool false,.bool false,.bool false,.bool false,.bool false,.bool false,.bool false,.bool false,.bool false,.bool false,.bool false,.bool false,.bool false,.bool false,.bool false,.bool false,.bool false,.bool false,.bool false,.bool false,.bool false,.bool false,.bool false,.bool false,.bool false,.bool false,.bool false,.bool false,.bool false,.bool false,.bool false,.bool false,.bool false,.bool false,.bool false,.bool false,.bool false,.bool false,.bool false,.bool false,.bool false,.bool false,.bool false,.bool false,.bool false,.bool false,.bool false,.bool false,.bool false,.bool false,.bool false,.bool false,.bool false,.bool false,.bool false,.bool false,.bool false,.bool false,.bool false,.bool false,.bool false,.bool false,.bool false,.bool false,.bool false,.bool false,.bool false,.bool false,.bool false,.bool false,.bool false,.bool false,.bool false,.bool false,.bool false,.bool false,.bool false,.bool false,.bool false,.bool false,.bool false,.bool false,.bool false,.bool false,.bool false,.bool false,.bool false,.bool false,.bool false,.bool false,.bool false,.bool false,.bool false])=some (T0,fun i=>.aC i 0):=fun e=>by rw[Fj,hT]
   simp (disch:=omega)only[go_sem,AP.f124,ba,hn,←eh1,e1,e2,l2,Kr,m1,g1,st,a1,b1]
 · rw [b2, sz]
   unfold Ac
   rw[QE]
   constructor
   · intro q i hi
     exact a3 i (by omega) (List.mem_range.1 hi)
   · intro q
     by_cases hm:m=0
     · omega
     · have:=a4 (by omega)
       rw[q (m-1) (List.mem_range.2 (by omega))]at this
       cases this
def Kn:ByteArray:=⟨#[46]⟩
def FA:ByteArray:=⟨#[46,46]⟩
def vO (s:ByteArray):Bool:=decide (1≤s.size)&&(decide (s.size≤8)&&(Ac s&&(!(s.data.toList==Kn.data.toList)&& !(s.data.toList==FA.data.toList))))
theorem F9 (h : H) (s : ByteArray) (hs : s.size < 1125899906842624) : aQ AP.A 121 [.str s] h = some (.bool (vO s), h) := by
 refine tB (fn:=AP.f121) (h2:=h.dU) (e:=[(2,.bool (vO s))]) rfl rfl rfl ?_ rfl rfl
 unfold vO
 by_cases c1:1≤s.size
 · by_cases c2:s.size≤8
   · obtain⟨r,t1,t2⟩:=MD h.dU s (by omega) (by omega)
     have t1':aQ AP.A 124 [.str s,.str ⟨#[97,98,99,100,101,102,103,104,105,106,107,108,109,110,111,112,113,114,115,116,117,118,119,120,121,122,48,49,50,51,52,53,54,55,56,57,46,45,95]⟩] h.dU=some (.str r,h.dU):=t1
     have e1:bp .eql (.str r) (.str ⟨#[]⟩)=some (.bool (Ac s)):=by
      rw[yE]
      by_cases q:Ac s=true
      · rw[q]
        have:r=⟨#[]⟩:=by
         apply ByteArray.ext
         exact Array.size_eq_zero_iff.1 (t2.2 q)
        rw[this,Db]
      · have q':Ac s=false:=by simpa using q
        rw[q',Cc]
        intro e
        rw[e]at t2
        exact q (t2.1 rfl)
     have e2:bp .neq (.str s) (.str ⟨#[46]⟩)=some (.bool (!(s.data.toList==Kn.data.toList))):=z8 _ _
     have e3:bp .neq (.str s) (.str ⟨#[46,46]⟩)=some (.bool (!(s.data.toList==FA.data.toList))):=z8 _ _
     clear t1 t2
     generalize (!(s.data.toList==Kn.data.toList))=B2 at *
     generalize (!(s.data.toList==FA.data.toList))=B3 at *
     generalize Ac s=B1 at *
     cases B1<;>cases B2<;>cases B3<;>simp (disch:=omega)only[go_sem,uX,AP.f121,t1',e1,e2,e3]
   · simp (disch:=omega)only[go_sem,uX,AP.f121]
 · simp (disch:=omega)only[go_sem,uX,AP.f121]
structure Tok where
 lit:Int
 len:Int
 PS:Int
deriving DecidableEq
def Ext (h g:H):Prop:=∀id c,h.get id=some c→g.get id=some c
theorem Ext.refl (h:H):Ext h h:=fun _ _ q=>q
theorem Ext.trans {a b c:H} (x:Ext a b) (y:Ext b c):Ext a c:=fun i d q=>y i d (x i d q)
theorem Ext.alloc {a h:H} (x:Ext a h) (cs:List AV):Ext a (h.alloc cs):=fun i d q=>by
 have:=h.lt _ _ (x i d q)
 rw[H.aV,if_neg (by omega)];exact x i d q
theorem Ext.set {a h:H} (x:Ext a h) {id:Nat} (hid:a.next≤id) (cs:List AV):Ext a (h.set id cs):=fun i d q=>by
 have:=a.lt _ _ q
 rw[H.dB,if_neg (by omega)];exact x i d q
def wX (n:Int):Bool:=decide (0≤n)&&decide (n≤1048576)
theorem DN (h:H) (n:Int):aQ AP.A 119 [.int .i64 n] h=some (.bool (wX n),h):=by
 refine tB (fn:=AP.f119) (h2:=h.dU) (e:=[(2,.bool (wX n))]) rfl rfl rfl ?_ rfl rfl
 unfold wX
 by_cases c1:0≤n<;>by_cases c2:n≤1048576<;>simp (disch:=omega)only[go_sem,uX,AP.f119]
def vD (n:Int):Bool:=decide (0≤n)&&decide (n<4)
theorem Av (h:H) (n:Int):aQ AP.A 120 [.int .i64 n] h=some (.bool (vD n),h):=by
 refine tB (fn:=AP.f120) (h2:=h.dU) (e:=[(2,.bool (vD n))]) rfl rfl rfl ?_ rfl rfl
 unfold vD
 by_cases c1:0≤n<;>by_cases c2:n<4<;>simp (disch:=omega)only[go_sem,uX,AP.f120]
def Ef (v:AV):Bool:=match v with| .int .i64 n=> !wX n|_=>false
theorem EW (h:H) (n:Int):aQ AP.A 123 [.int .i64 n] h=some (.bool (!wX n),h):=by
 have k1:=DN h.dU n
 refine tB (fn:=AP.f123) (h2:=h.dU) (e:=[(2,.bool (!wX n))]) rfl rfl rfl ?_ rfl rfl
 simp (disch:=omega)only[go_sem,uX,AP.f123,k1]
def w8 (l:List Int):Bool:=decide (l.length=4)&&l.all wX
theorem zL:∀l:List Int,(ints l).any Ef= !l.all wX
 |[]=>rfl
 | n :: l => by
   have:=zL l
   simp only[ints,Qz,List.any_cons,List.all_cons,Bool.not_and]at *
   rw[this];rfl
theorem Ei (h:H) (v:AV) (l:List Int) (rd:Rd h v (ints l)) (hl:l.length<1125899906842624):aQ AP.A 117 [v] h=some (.bool (w8 l),h):=by
 have rd':=rd.mono (vk h)
 have ln:=rd'.len
 rw[o9]at ln
 simp only[I]at ln
 refine tB (fn:=AP.f117) (h2:=h.dU) (e:=[(2,.bool (w8 l))]) rfl rfl rfl ?_ rfl rfl
 unfold w8
 by_cases c:l.length=4
 · have k1:=yR (fv:=.fn 123 [] []) Ef (fun x hx g=>by
    obtain⟨n,hn,rfl⟩:=Qy.1 hx
    rw[nr];exact EW g n) (by simp;omega) h.dU rd'
   rw[zL]at k1
   have c':(l.length:Int)=4:=by omega
   simp (disch:=omega)only[go_sem,uX,AP.f117,ln,k1,Bool.not_not]
 · have c':¬(l.length:Int)=4:=by omega
   simp (disch:=omega)only[go_sem,uX,AP.f117,ln]
theorem Rd.wJ {h:H} {v:AV} {l:List Int} (r:Rd h v (ints l)):∃ad:Int→AV,(∀i:Int,0≤i∧i<l.length→fM 1 v (.int .i64 i)=some (ad i))∧
 ∀g:H,Ext h g→∀(i:Nat) (n:Int),l[i]?=some n→bS false 1 (ad i) g=some (.int .i64 n):=by
 have r2:=r.DZ
 rw[o9]at r2
 obtain⟨ad,a1,_,_,a3⟩:=r2.at_
 refine⟨fun i=>ad i 0,a1,fun g hg i n hn=> ?_⟩
 have hi:i<l.length:=(uk.1 hn).1
 refine(a3 g hg).1 i 0 _ ⟨by omega,by omega⟩ ?_
 rw[wD,QM,QH]
 exact sj hn
structure vv where
 name:ByteArray
 gone:Bool
 vec:List Int
 vp:Int
 node:Int
 method:Int
 packed:ByteArray
 size:Int
 zu:Int
def uY (e:vv) (v:AV):List AV:=[.str e.name,.bool e.gone,v,.int .i64 e.vp,.int .i64 e.node,.int .i64 e.method,.str e.packed,.int .i64 e.size,.int .i64 e.zu]
def vN (e:vv):Bool:=w8 e.vec&&(decide (1≤e.vp)&&(wX e.vp&&vD e.node))
structure PE (h:H) (p:AV) (cs:List AV):Prop where
 nil:∀g:H,jw g p=some (p,g)
 sV:∃q:Nat→AV,(∀k,eY k p=some (q k))∧∀g:H,Ext h g→∀(k:Nat) (c:AV),cs[k]?=some c→bS false 1 (q k) g=some c
theorem FN (h:H) (p v:AV) (e:vv) (pe:PE h p (uY e v)) (rd:Rd h v (ints e.vec)) (hl:e.vec.length<1125899906842624):aQ AP.A 112 [p] h=some (.bool (vN e),h):=by
 have nl:=pe.nil
 obtain⟨q,f1,f2⟩:=pe.sV
 have l2:=f2 h (Ext.refl h) 2 v rfl
 have l3:=f2 h (Ext.refl h) 3 _ rfl
 have l4:=f2 h (Ext.refl h) 4 _ rfl
 have k1:=Ei h v e.vec rd hl
 have k2:=DN h e.vp
 have k3:=Av h e.node
 have c2:wX e.vp=true→1≤e.vp→True:=fun _ _=>trivial
 refine ta (fn:=AP.f112) (h2:=h) (e:=[(2,.bool (vN e))]) (vs:=[.bool (vN e)]) rfl rfl rfl ?_ rfl
 unfold vN
 clear pe f2 rd c2
 generalize w8 e.vec=B1 at *
 generalize wX e.vp=B2 at *
 generalize vD e.node=B3 at *
 by_cases c1:1≤e.vp<;>cases B1<;>cases B2<;>cases B3<;>simp (disch:=omega)only[go_sem,uX,AP.f112,nl,f1,l2,l3,l4,k1,k2,k3]
def CN (s:ByteArray):Bool:=s.data.toList==(⟨#[]⟩:ByteArray).data.toList
def wF (e:vv):Bool:=
 if e.gone then decide (e.method=0)&&(CN e.packed&&(decide (e.size=0)&&decide (e.zu=0)))
 else(decide (0≤e.size)&&(decide (e.size≤300)&&yU e.zu))&&(decide (e.method=0)&&decide ((e.packed.size:Int)=e.size)||decide (e.method=8)&&decide (e.packed.size≤300))
theorem Ez (h : H) (p v : AV) (e : vv) (pe : PE h p (uY e v)) : aQ AP.A 122 [p] h = some (.bool (wF e), h) := by
 have nl:=pe.nil
 obtain⟨q,f1,f2⟩:=pe.sV
 have l1:=f2 h (Ext.refl h) 1 _ rfl
 have l5:=f2 h (Ext.refl h) 5 _ rfl
 have l6:=f2 h (Ext.refl h) 6 _ rfl
 have l7:=f2 h (Ext.refl h) 7 _ rfl
 have l8:=f2 h (Ext.refl h) 8 _ rfl
 have k1:=HD h e.zu
 have e1:bp .eql (.str e.packed) (.str ⟨#[]⟩)=some (.bool (CN e.packed)):=yE _ _
 refine ta (fn:=AP.f122) (h2:=h) (e:=[(2,.bool (wF e))]) (vs:=[.bool (wF e)]) rfl rfl rfl ?_ rfl
 unfold wF
 clear pe f2
 generalize CN e.packed=B1 at *
 generalize yU e.zu=B2 at *
 cases hg:e.gone with
 | true =>
   rw[hg]at l1
   rw[if_pos rfl]
   by_cases c1:e.method=0
   · cases B1 with
     |false=>simp (disch:=omega)only[go_sem,uX,AP.f122,nl,f1,l1,l5,l6,l7,l8,e1]
     | true =>
       by_cases c2:e.size=0
       · by_cases c3:e.zu=0<;>simp (disch:=omega)only[go_sem,uX,AP.f122,nl,f1,l1,l5,l6,l7,l8,e1]
       · simp (disch:=omega)only[go_sem,uX,AP.f122,nl,f1,l1,l5,l6,l7,l8,e1]
   · simp (disch:=omega)only[go_sem,uX,AP.f122,nl,f1,l1,l5,l6,l7,l8,e1]
 | false =>
   rw[hg]at l1
   rw[if_neg (by decide)]
   by_cases c1:e.method=0
   · have c1':¬e.method=8:=by omega
     by_cases c2:(e.packed.size:Int)=e.size
     · by_cases c3:0≤e.size
       · by_cases c4:e.size≤300
         · cases B2<;>simp (disch:=omega)only[go_sem,uX,AP.f122,nl,f1,l1,l5,l6,l7,l8,e1,k1]
         · simp (disch:=omega)only[go_sem,uX,AP.f122,nl,f1,l1,l5,l6,l7,l8,e1,k1]
       · exfalso;omega
     · simp (disch:=omega)only[go_sem,uX,AP.f122,nl,f1,l1,l5,l6,l7,l8,e1,k1]
   · by_cases c0:e.method=8
     · by_cases c2:e.packed.size≤300
       · by_cases c3:0≤e.size
         · by_cases c4:e.size≤300
           · cases B2<;>simp (disch:=omega)only[go_sem,uX,AP.f122,nl,f1,l1,l5,l6,l7,l8,e1,k1]
           · simp (disch:=omega)only[go_sem,uX,AP.f122,nl,f1,l1,l5,l6,l7,l8,e1,k1]
         · simp (disch:=omega)only[go_sem,uX,AP.f122,nl,f1,l1,l5,l6,l7,l8,e1,k1]
       · simp (disch:=omega)only[go_sem,uX,AP.f122,nl,f1,l1,l5,l6,l7,l8,e1,k1]
     · simp (disch:=omega)only[go_sem,uX,AP.f122,nl,f1,l1,l5,l6,l7,l8,e1,k1]
def x9 (prev:Option vv) (e:vv):Bool:=vO e.name&&((match prev with|none=>true|some p=>Op.bytesLess p.name.toList e.name.toList)&&(vN e&&wF e))
theorem z5 (e:vv):x9 none e=(vO e.name&&(vN e&&wF e)):=by simp [x9]
theorem Hu (p e:vv):x9 (some p) e=(vO e.name&&(Op.bytesLess p.name.toList e.name.toList&&(vN e&&wF e))):=rfl
def xS:Option vv→List vv→Bool
 |_,[]=>true
 |p,e::r=>x9 p e&&xS (some e) r
abbrev vh:=vv×AV
def Ko (x:vh):List AV:=uY x.1 x.2
def u9 (l:List vh):List AV:=l.flatMap Ko
theorem y6 (x:vh):(Ko x).length=9:=rfl
theorem EE (l:List vh):(u9 l).length=l.length* 9:=Dy y6 l
structure wM (h:H) (x:vh):Prop where
 vec:Rd h x.2 (ints x.1.vec)
 vl:x.1.vec.length<1125899906842624
 nl:x.1.name.size<1125899906842624
 pl:x.1.packed.size<1125899906842624
theorem wM.mono {h g:H} {x:vh} (o:wM h x) (e:Ext h g):wM g x:=⟨o.vec.mono fun i c q=>e i c q,o.vl,o.nl,o.pl⟩
theorem El {v : AV} {l : List vh} (hn : l.length < 1125899906842624) (h : H) (b : Nat) (hb : h.get b = some [v]) (rd : wv 9 h v l.length (u9 l)) (hv : ∀ x ∈ l, wM h x) : ∀ (q p : List vh), l = p ++ q →
 (∃e',Lp AP.A [1,7,8] AP.f113L0 [(1,.aC b 0),(7,.int .i64 l.length),(8,.int .i64 p.length)] h=some (.exit 0,e',h)∧look e' 1=.aC b 0∧xS (p.getLast?.map (·.1)) (q.map (·.1))=true)∨
 (∃e',Lp AP.A [1,7,8] AP.f113L0 [(1,.aC b 0),(7,.int .i64 l.length),(8,.int .i64 p.length)] h=some (.ret,e',h)∧look e' 2=.bool false∧xS (p.getLast?.map (·.1)) (q.map (·.1))=false)
 | [], p, hp => by
   left
   rw[Qv]at hp;subst hp
   refine⟨[(1,.aC b 0),(7,.int .i64 l.length),(8,.int .i64 l.length),(9,.bool false)],sN ?_,rfl,rfl⟩
   simp (disch:=omega)only[go_sem,uX,AP.f113L0]
 | x :: q, p, hp => by
   have hlen:l.length=p.length+(q.length+1):=by rw[hp];simp
   have hx:l[p.length]?=some x:=by rw[hp];simp
   have ho:=hv x (by rw[hp];simp)
   obtain⟨ad,a1,a2,a4,a3⟩:=rd.at_
   have hI:(0:Int)≤(p.length:Int)∧(p.length:Int)<l.length:=⟨by omega,by omega⟩
   have b1:=a1 _ hI
   have pe:PE h (ad p.length 0) (uY x.1 x.2):=by
    refine⟨fun g=>a4 _ 0 g hI,fun k=>ad p.length (0+k),fun k=>a2 _ 0 k hI,fun g hg k c hc=> ?_⟩
    have hk:k<9:=(uk.1 hc).1
    refine(a3 g hg).1 _ _ _ hI ?_
    rw[wD,uy,show u9 l=l.flatMap Ko from rfl,yg y6 hx hk];exact hc
   have k1:=F9 h x.1.name ho.nl
   have k2:=FN h _ _ x.1 pe ho.vec ho.vl
   have k3:=Ez h _ _ x.1 pe
   have nl:=pe.nil
   obtain⟨qq,f1,f2⟩:=pe.sV
   have l0:=f2 h (Ext.refl h) 0 _ rfl
   have ih:=El hn h b hb rd hv q (p++[x]) (by rw[hp];simp)
   have w1:(((p++[x]).length:Nat):Int)=(p.length:Int)+1:=by simp
   rw[w1,List.getLast?_concat]at ih
   have step : aK (aQ AP.A) bA AP.f113L0 (ax [(1, .aC b 0), (7, .int .i64 l.length), (8, .int .i64 p.length)] [1, 7, 8]) h = if x9 (p.getLast?.map (·.1)) x.1 then some (.normal, [(1, .aC b 0), (7, .int .i64 l.length), (8, .int .i64 ((p.length : Int) + 1))], h) else some (.ret, [(2, .bool false)], h) := by
    cases hl:p.getLast? with
    | none =>
      have hp0:p=[]:=List.getLast?_eq_none_iff.1 hl
      have hp1:p.length=0:=by rw[hp0];rfl
      clear ih w1 pe f2 a1 a2 a3 a4 hl hv hp ho hx
      rw[QC,z5]
      generalize vO x.1.name=B1 at *
      generalize vN x.1=B3 at *
      generalize wF x.1=B4 at *
      cases B1 with
      | false =>
        rw[Qu,if_neg (by decide)]
        simp (disch:=omega)only[go_sem,uX,AP.f113L0,hb,b1,nl,f1,l0,k1,k2,k3]
      | true =>
        cases B3 with
        | false =>
          rw[Qu,Qx,if_neg (by decide)]
          simp (disch:=omega)only[go_sem,uX,AP.f113L0,hb,b1,nl,f1,l0,k1,k2,k3]
        | true =>
          cases B4 with
          | false =>
            rw[Qx,Qx,if_neg (by decide)]
            simp (disch:=omega)only[go_sem,uX,AP.f113L0,hb,b1,nl,f1,l0,k1,k2,k3]
          | true =>
            rw[QF,QF,if_pos rfl]
            simp (disch:=omega)only[go_sem,uX,AP.f113L0,hb,b1,nl,f1,l0,k1,k2,k3]
    | some y =>
      obtain⟨p',rfl⟩:∃p',p=p'++[y]:=List.getLast?_eq_some_iff.1 hl
      have hpl:(p'++[y]).length=p'.length+1:=by simp
      have hy:l[p'.length]?=some y:=by rw[hp];simp
      have hJ:(0:Int)≤(p'.length:Int)∧(p'.length:Int)<l.length:=⟨by omega,by omega⟩
      have bj:=a1 _ hJ
      have fj:=a2 _ 0 0 hJ
      have lj:=(a3 h (Ext.refl h)).1 p'.length (0+0) (.str y.1.name) hJ (by
       rw[wD,show u9 l=l.flatMap Ko from rfl,uy,yg y6 hy (by omega)];rfl)
      have cmp:bp .geq (.str y.1.name) (.str x.1.name)=some (.bool (!(Op.bytesLess y.1.name.toList x.1.name.toList))):=rfl
      have n2:(((p'++[y]).length:Nat):Int)-1=(p'.length:Int):=by rw[hpl];omega
      clear ih w1 pe f2 a1 a2 a3 a4 hl hv hp ho hx hy
      rw[Qp,Hu]
      simp only[QH]at fj lj
      generalize Op.bytesLess y.1.name.toList x.1.name.toList=B2 at *
      generalize vO x.1.name=B1 at *
      generalize vN x.1=B3 at *
      generalize wF x.1=B4 at *
      generalize (p'++[y]).length=pl at *
      cases B1 with
      | false =>
        rw[Qu,if_neg (by decide)]
        simp (disch:=omega)only[go_sem,uX,AP.f113L0,hb,b1,nl,f1,l0,k1,k2,k3,bj,fj,lj,cmp,n2]
      | true =>
        cases B2 with
        | false =>
          rw[Qu,Qx,if_neg (by decide)]
          simp (disch:=omega)only[go_sem,uX,AP.f113L0,hb,b1,nl,f1,l0,k1,k2,k3,bj,fj,lj,cmp,n2]
        | true =>
          cases B3 with
          | false =>
            rw[Qu,Qx,Qx,if_neg (by decide)]
            simp (disch:=omega)only[go_sem,uX,AP.f113L0,hb,b1,nl,f1,l0,k1,k2,k3,bj,fj,lj,cmp,n2]
          | true =>
            cases B4 with
            | false =>
              rw[Qx,Qx,Qx,if_neg (by decide)]
              simp (disch:=omega)only[go_sem,uX,AP.f113L0,hb,b1,nl,f1,l0,k1,k2,k3,bj,fj,lj,cmp,n2]
            | true =>
              rw[QF,QF,QF,if_pos rfl]
              simp (disch:=omega)only[go_sem,uX,AP.f113L0,hb,b1,nl,f1,l0,k1,k2,k3,bj,fj,lj,cmp,n2]
   have hmay:xS (p.getLast?.map (·.1)) ((x::q).map (·.1))=(x9 (p.getLast?.map (·.1)) x.1&&xS (some x.1) (q.map (·.1))):=rfl
   rw[hmay]
   by_cases hok:x9 (p.getLast?.map (·.1)) x.1=true
   · rw[if_pos hok]at step
     rw[hok,QB]
     rcases ih with ⟨e',r1,r2,r3⟩|⟨e',r1,r2,r3⟩
     · exact .inl ⟨e',sP step r1,r2,r3⟩
     · exact .inr ⟨e',sP step r1,r2,r3⟩
   · have hok':x9 (p.getLast?.map (·.1)) x.1=false:=by simpa using hok
     rw[if_neg hok]at step
     rw[hok',Qu]
     exact .inr ⟨_,tk step,rfl,rfl⟩
def wW (l:List vv):Bool:=xS none l&&decide (l.length≤6)
theorem GX (h:H) (v:AV) (l:List vh) (hvs:v.sc=true) (hn:l.length<1125899906842624) (rd:wv 9 h v l.length (u9 l)) (hv:∀x∈l,wM h x):aQ AP.A 113 [.agg [v]] h=some (.bool (wW (l.map (·.1))),h):=by
 obtain⟨h1,eh1⟩:∃g,g=h.dU.alloc [v]:=⟨_,rfl⟩
 have hx:Ext h.dU h1:=by rw[eh1];exact(Ext.refl _).alloc _
 have hx0:Ext h h1:=fun i c q=>hx i c q
 have hn0:h.dU.next=h.next:=rfl
 have g1:h1.get h.next=some [v]:=by rw[eh1];exact uW rfl
 have rd1:=rd.mono fun i c q=>hx0 i c q
 have ln:=rd1.len
 have hb:∀ev:Env,look ev 0=.agg [v]→aX ev (.box 1 (.t 0))=some ([v],fun i=>.aC i 0):=by
  intro ev q
  simp only[aX,rK,q,kF]
  rw[if_pos ⟨rfl,by simp [hvs]⟩]
 unfold wW
 rcases El hn h1 h.next g1 rd1 (fun x hx=>(hv x hx).mono hx0) l [] rfl with ⟨e',r1,r2,r3⟩|⟨e',r1,r2,r3⟩
 · have r1':Lp AP.A [1,7,8] AP.f113L0 [(1,.aC h.next 0),(7,.int .i64 l.length),(8,.int .i64 0)] h1=some (.exit 0,e',h1):=r1
   clear r1
   have r3':xS none (l.map (·.1))=true:=r3
   rw[r3',QB,Qr]
   refine tB (fn:=AP.f113) (h2:=h1) (e:=[(2,.bool (decide (l.length≤6)))]) rfl rfl rfl ?_ rfl rfl
   clear rd rd1 hv hx hx0 r3 r3'
   simp only[mM,mN,AP.f113]
   rw[rk,rj,sD,iR,hb _ rfl]
   simp only[ma,hn0,←eh1]
   by_cases c:l.length≤6
   · simp (disch:=omega)only[go_sem,uX,g1,ln,rH,r1',r2]
   · simp (disch:=omega)only[go_sem,uX,g1,ln,rH,r1',r2]
 · have r1':Lp AP.A [1,7,8] AP.f113L0 [(1,.aC h.next 0),(7,.int .i64 l.length),(8,.int .i64 0)] h1=some (.ret,e',h1):=r1
   clear r1
   have r3':xS none (l.map (·.1))=false:=r3
   rw[r3',Qu]
   refine tB (fn:=AP.f113) (h2:=h1) (e:=e') (vs:=[.bool false]) rfl rfl rfl ?_ (by simp only[AP.f113,cJ,mP,r2];rfl) rfl
   clear rd rd1 hv hx hx0 r3 r3'
   simp only[mM,mN,AP.f113]
   rw[rk,rj,sD,iR,hb _ rfl]
   simp only[ma,hn0,←eh1]
   simp (disch:=omega)only[go_sem,uX,g1,ln,rH,r1']
def wU (method : Int) (s : ByteArray) (size : Int) : Option ByteArray :=
 if size<0∨300<size then none
 else if method=0 then(if(s.size:Int)=size then some s else none)
 else if method=8 then(match xL s size with
  | .ok (o,took)=>if(o.length:Int)=size∧took=s.size then some (bytesOf o)else none
  | .error _=>none)
 else none
theorem Ce {m : Int} {s : ByteArray} {z : Int} {t : ByteArray} (h : wU m s z = some t) : (t.size : Int) = z ∧ 0 ≤ z ∧ z ≤ 300 := by
 unfold wU at h
 split at h
 · cases h
 · rename_i q
   split at h
   · split at h
     · rename_i q2;obtain rfl:=ue h;omega
     · cases h
   · split at h
     · split at h
       · split at h
         · rename_i q2
           obtain rfl:=ue h
           rw[vH];omega
         · cases h
       · cases h
     · cases h
def MF:Option ByteArray→AV
 |some t=>.bO [.str t,.int .i64 0]
 |none=>.bO [.str ⟨#[]⟩,.int .i64 900]
theorem GS (h : H) (hf : h.floor ≤ h.next) (m : Int) (s : ByteArray) (z : Int) (hs : s.size < 1125899906842624) : aQ AP.A 114 [.int .i64 m, .str s, .int .i64 z] h = some (MF (wU m s z), h) := by
 unfold wU
 by_cases c1:z<0
 · rw[if_pos (.inl c1)]
   refine tB (fn:=AP.f114) (h2:=h.dU) (e:=[(6,.str ⟨#[]⟩),(7,.int .i64 900)]) rfl rfl rfl ?_ rfl rfl
   simp (disch:=omega)only[go_sem,uX,AP.f114]
 by_cases c2:300<z
 · rw[if_pos (.inr c2)]
   refine tB (fn:=AP.f114) (h2:=h.dU) (e:=[(6,.str ⟨#[]⟩),(7,.int .i64 900)]) rfl rfl rfl ?_ rfl rfl
   simp (disch:=omega)only[go_sem,uX,AP.f114]
 rw[if_neg (by omega)]
 by_cases c3:m=0
 · rw[if_pos c3]
   by_cases c4:(s.size:Int)=z
   · rw[if_pos c4]
     refine tB (fn:=AP.f114) (h2:=h.dU) (e:=[(6,.str s),(7,.int .i64 0)]) rfl rfl rfl ?_ rfl rfl
     simp (disch:=omega)only[go_sem,uX,AP.f114]
   · rw[if_neg c4]
     refine tB (fn:=AP.f114) (h2:=h.dU) (e:=[(6,.str ⟨#[]⟩),(7,.int .i64 900)]) rfl rfl rfl ?_ rfl rfl
     simp (disch:=omega)only[go_sem,uX,AP.f114]
 rw[if_neg c3]
 by_cases c5:m=8
 · rw [if_pos c5]
   have k1:=EH h.dU (by simp) s z hs
   simp only[I]at k1
   cases hi:xL s z with
   | error k =>
     rw[hi]at k1
     simp only[L6,I]at k1
     have hk:=BP hi
     have hk':¬k=0:=by rcases hk with rfl|rfl<;>decide
     clear hk
     refine tB (fn:=AP.f114) (h2:=h.dU) (e:=[(6,.str ⟨#[]⟩),(7,.int .i64 900)]) rfl rfl rfl ?_ rfl rfl
     simp (disch:=omega)only[go_sem,uX,AP.f114,k1]
   | ok r =>
     obtain⟨o,took⟩:=r
     rw[hi]at k1
     simp only[L6,I]at k1
     dsimp only
     have sz:=vH o
     by_cases c6:(o.length:Int)=z
     · by_cases c7:took=s.size
       · rw[if_pos ⟨c6,c7⟩]
         refine tB (fn:=AP.f114) (h2:=h.dU) (e:=[(6,.str (bytesOf o)),(7,.int .i64 0)]) rfl rfl rfl ?_ rfl rfl
         simp (disch:=omega)only[go_sem,uX,AP.f114,k1,sz]
       · rw[if_neg (fun q=>c7 q.2)]
         refine tB (fn:=AP.f114) (h2:=h.dU) (e:=[(6,.str ⟨#[]⟩),(7,.int .i64 900)]) rfl rfl rfl ?_ rfl rfl
         simp (disch:=omega)only[go_sem,uX,AP.f114,k1,sz]
     · rw[if_neg (fun q=>c6 q.1)]
       refine tB (fn:=AP.f114) (h2:=h.dU) (e:=[(6,.str ⟨#[]⟩),(7,.int .i64 900)]) rfl rfl rfl ?_ rfl rfl
       simp (disch:=omega)only[go_sem,uX,AP.f114,k1,sz]
 · rw[if_neg c5]
   refine tB (fn:=AP.f114) (h2:=h.dU) (e:=[(6,.str ⟨#[]⟩),(7,.int .i64 900)]) rfl rfl rfl ?_ rfl rfl
   simp (disch:=omega)only[go_sem,uX,AP.f114]
def yw (e : vv) : Option ByteArray :=
 if wW [e]=false then none
 else if e.gone then some ⟨#[]⟩
 else match wU e.method e.packed e.size with
  |some t=>if(wq t:Int)=e.zu then some t else none
  |none=>none
theorem MC (h : H) (hf : h.floor ≤ h.next) (e : vv) (v : AV) (hv : v.sc = true) (ok : wM h (e, v)) : ∃ t, aQ AP.A 107 [.agg (uY e v)] h = some (.bO [.str t, .bool (yw e).isSome], h) ∧ (∀ u, yw e = some u → t = u) := by
 obtain⟨h1,eh1⟩:∃g,g=h.dU.alloc (uY e v):=⟨_,rfl⟩
 obtain⟨h2,eh2⟩:∃g,g=h1.alloc (uY e v):=⟨_,rfl⟩
 have hx1:Ext h h1:=fun i c q=>by rw[eh1];exact((Ext.refl h.dU).alloc _) i c q
 have hx2:Ext h h2:=by rw[eh2];exact hx1.alloc _
 have hn0:h.dU.next=h.next:=rfl
 have hn1:h1.next=h.next+1:=by rw[eh1];simp
 have g1:h2.get h.next=some (uY e v):=by rw[eh2,u6 (by omega),eh1,uW (by simp)]
 have g0:h1.get h.next=some (uY e v):=by rw[eh1,uW (by simp)]
 have o:wv 9 h2 (.aD (h.next+1) 0 1 9) 1 (u9 [(e,v)]):=by
  refine⟨?_,rfl,fun _=>by simp⟩
  simp only[aR,if_true]
  rw[eh2,uW (by omega)]
  rfl
 have k1:=GX h2 (.aD (h.next+1) 0 1 9) [(e,v)] rfl (by simp) o (fun x hx=>by
  obtain rfl:x=(e,v):=by simpa using hx
  exact ok.mono hx2)
 have k1':aQ AP.A 113 [.agg [.aD (h.next+1) 0 1 9]] h2=some (.bool (wW [e]),h2):=k1
 have hf2:h2.floor≤h2.next:=by rw[eh2,eh1];simp;omega
 have k2:=GS h2 hf2 e.method e.packed e.size ok.pl
 have rdA:gY true 9 (uY e v) 0=some (.agg (uY e v)):=rfl
 have cr:∀t:ByteArray,t.size<1125899906842624→aQ AP.A 115 [.str t] h2=some (.int .i64 (wq t:Nat),h2):=fun t ht=>CT h2 t ht
 clear k1 o hx1 hx2
 unfold yw
 simp only[uY]at *
 cases hm:wW [e]with
 | false =>
   rw[hm]at k1'
   refine⟨⟨#[]⟩, ?_,fun u q=>by simp at q⟩
   rw[if_pos rfl]
   refine tB (fn:=AP.f107) (h2:=h2) (e:=[(2,.str ⟨#[]⟩),(3,.bool false)]) rfl rfl rfl ?_ rfl rfl
   simp (disch:=omega)only[go_sem,uX,AP.f107,hv,hn0,←eh1,g0,rdA,hn1,←eh2,k1']
 | true =>
   rw[hm]at k1'
   rw[if_neg (by decide)]
   cases hg:e.gone with
   | true =>
     rw[hg]at g1 g0 eh1 eh2 rdA
     refine⟨⟨#[]⟩, ?_,fun u q=>by simpa using q⟩
     refine tB (fn:=AP.f107) (h2:=h2) (e:=[(2,.str ⟨#[]⟩),(3,.bool true)]) rfl rfl rfl ?_ rfl rfl
     simp (disch:=omega)only[go_sem,uX,AP.f107,hv,hn0,←eh1,g0,g1,rdA,hn1,←eh2,k1']
   | false =>
     rw[hg]at g1 g0 eh1 eh2 rdA
     rw[if_neg (by decide)]
     cases hu:wU e.method e.packed e.size with
     | none =>
       rw[hu]at k2
       simp only[MF]at k2
       refine⟨⟨#[]⟩, ?_,fun u q=>by simp at q⟩
       refine tB (fn:=AP.f107) (h2:=h2) (e:=[(2,.str ⟨#[]⟩),(3,.bool false)]) rfl rfl rfl ?_ rfl rfl
       simp (disch:=omega)only[go_sem,uX,AP.f107,hv,hn0,←eh1,g0,g1,rdA,hn1,←eh2,k1',k2]
     | some t =>
       rw[hu]at k2
       simp only[MF]at k2
       have kc:=cr t (by have:=Ce hu;omega)
       dsimp only
       by_cases c:(wq t:Int)=e.zu
       · rw[if_pos c]
         refine⟨t, ?_,fun u q=>ue q⟩
         refine tB (fn:=AP.f107) (h2:=h2) (e:=[(2,.str t),(3,.bool true)]) rfl rfl rfl ?_ rfl rfl
         simp (disch:=omega)only[go_sem,uX,AP.f107,hv,hn0,←eh1,g0,g1,rdA,hn1,←eh2,k1',k2,kc]
       · rw[if_neg c]
         refine⟨t, ?_,fun u q=>by simp at q⟩
         refine tB (fn:=AP.f107) (h2:=h2) (e:=[(2,.str t),(3,.bool false)]) rfl rfl rfl ?_ rfl rfl
         simp (disch:=omega)only[go_sem,uX,AP.f107,hv,hn0,←eh1,g0,g1,rdA,hn1,←eh2,k1',k2,kc]
def vV (e:vv):Bool:=(yw e).isSome
theorem Dw (h:H) (hf:h.floor≤h.next) (e:vv) (v:AV) (hv:v.sc=true) (ok:wM h (e,v)):aQ AP.A 96 [.agg (uY e v)] h=some (.bool (vV e),h):=by
 obtain⟨h1,eh1⟩:∃g,g=h.dU.alloc (uY e v):=⟨_,rfl⟩
 have hx1:Ext h h1:=fun i c q=>by rw[eh1];exact((Ext.refl h.dU).alloc _) i c q
 have hn0:h.dU.next=h.next:=rfl
 have g0:h1.get h.next=some (uY e v):=by rw[eh1,uW (by simp)]
 obtain⟨t,k1,_⟩:=MC h1 (by rw[eh1];simp) e v hv (ok.mono hx1)
 have rdA:gY true 9 (uY e v) 0=some (.agg (uY e v)):=rfl
 refine tB (fn:=AP.f96) (h2:=h1) (e:=[(2,.bool (vV e))]) rfl rfl rfl ?_ rfl rfl
 clear hx1
 unfold vV
 simp only[uY]at *
 simp (disch:=omega)only[go_sem,uX,AP.f96,hv,hn0,←eh1,g0,rdA,k1]
theorem On (e:vv):wW [e]=(vO e.name&&(vN e&&wF e)):=by
 unfold wW xS
 rw[z5]
 simp [xS]
theorem Mo (c:ae) (e:Env) (h:H) (x y:X):ah c e h (.mx [x,y])=du h (lU (x.ev e) (y.ev e)):=by
 simp only[ah,aW,Qz,List.map_nil,gk]
 cases lU (x.ev e) (y.ev e)<;>rfl
def v9 (a b:Int):Int:=if a<b then b else a
theorem G3 (k:IntKind) (a b:Int):lU (.int k a) (.int k b)=some (.int k (v9 a b)):=rfl
def zP (a b:List Int):List Int:=List.zipWith v9 a b
theorem Rd.OP {h:H} {v:AV} {cs:List AV} (r:Rd h v cs) (hc:cs≠[]):fu 1 v .aO=some false:=by
 obtain⟨r,hs⟩:=r
 unfold aR at r
 split at r
 · obtain⟨_,h2⟩:=ug (ue r);exact absurd h2.symm hc
 · exact absurd rfl (hs _)
 · rfl
 · rfl
 · cases r
theorem A3 {n:Nat} {h:H} {v:AV} {k:Nat} {cs:List AV} (r:wv n h v k cs) (hfn:h.floor≤h.next) (hn:0<n) (hk:0<k) {z:Nat} (hr:roomy z k=true) (hc:AV.aB cs=true):
 kz (h.alloc []) n z (.aD h.next 0 0 n) v=some (.aD (h.next+1) 0 k n,((h.alloc []).del h.next).alloc cs):=by
 have r2:wv n (h.alloc []) v k cs:=r.mono fun i c q=>by rw[H.aV,if_neg (by have:=h.lt _ _ q;omega)];exact q
 unfold kz
 rw[r2.1,um]
 have hkn:0<k* n:=Nat.mul_pos hk hn
 unfold dP
 rw[if_neg (by omega),if_neg (by simp [hc];omega)]
 simp only[H.jm,hfn,and_self,if_true]
 rw[uW rfl,um,if_neg (by simp;omega),if_pos ⟨by simp,by simpa using hr⟩]
 simp
theorem Dn {n:Nat} {h:H} {v:AV} {cs:List AV} (r:wv n h v 0 cs) {z:Nat}:kz (h.alloc []) n z (.aD h.next 0 0 n) v=some (.aD h.next 0 0 n,h.alloc []):=by
 have r2:wv n (h.alloc []) v 0 cs:=r.mono fun i c q=>by rw[H.aV,if_neg (by have:=h.lt _ _ q;omega)];exact q
 unfold kz
 rw[r2.1,um]
 rfl
theorem yT:∀l:List Int,AV.aB (ints l)=true
 |[]=>rfl
 | n :: l => by
   have:=yT l
   show AV.aB (I n::ints l)=true
   rw[pD,this];rfl
theorem BI (h:H) (v:AV) (l:List Int) (rd:Rd h v (ints l)) (hl:0<l.length) (hb:l.length<1000000) (hfn:h.floor≤h.next):aQ AP.A 118 [v] h=some (.aD (h.next+1) 0 l.length 1,((h.alloc []).del h.next).alloc (ints l)):=by
 have r2:=rd.DZ
 rw[o9]at r2
 have ap:=A3 r2 hfn (by omega) hl (z:=8) (by simp [roomy];omega) (yT l)
 have nn:=rd.OP (fun q=>by
  have q2:(ints l).length=0:=by rw[q];rfl
  rw[o9]at q2
  omega)
 refine ta (fn:=AP.f118) (h2:=((h.alloc []).del h.next).alloc (ints l)) (e:=[(2,.aD (h.next+1) 0 l.length 1)]) (vs:=[.aD (h.next+1) 0 l.length 1]) rfl rfl rfl ?_ rfl
 clear rd r2
 simp (disch:=omega)only[go_sem,uX,AP.f118,nn,ap]
theorem Ik {l:List Int} (h:l.length=4):∃a b c d,l=[a,b,c,d]:=by
 match l,h with
 |[a,b,c,d],_=>exact⟨a,b,c,d,rfl⟩
def zr (l:List Int):AV:=Eb 1 l.length (ints l)
theorem yA (h:H) (id:Nat) (b0:AV) (adv:Int→AV) (i:Nat) (x y:Int) (cs:List AV) (hi:i<4) (hg:h.get id=some cs) (hl:cs.length=4) (hx:cs[i]?=some (.int .i64 x)) (hf:h.floor≤id)
 (a1:fM 1 b0 (.int .i64 i)=some (adv i)) (a2:bS false 1 (adv i) h=some (.int .i64 y)):
 aK (aQ AP.A) bA AP.f110L0 (ax [(6,.aD id 0 4 1),(19,b0),(20,.int .i64 4),(21,.int .i64 i)] [6,19,20,21]) h=some (.normal,[(6,.aD id 0 4 1),(19,b0),(20,.int .i64 4),(21,.int .i64 ((i:Int)+1))],h.set id (cs.set i (.int .i64 (v9 x y)))):=by
 have st:=tV (h:=h) (id:=id) (off:=i) (v:=.int .i64 (v9 x y)) (cs:=cs) hf (by omega) rfl
 simp (disch:=omega)only[go_sem,uX,AP.f110L0,a1,a2,hg,hx,Mo,G3,st]
def zC:vv:=⟨⟨#[]⟩,false,[],0,0,0,⟨#[]⟩,0,0⟩
theorem GB {g:Nat→Option (List AV)} {fl n:Nat} {e:vv} {v v':AV} (hv:snap g fl (n+1) true v=some v'):snap g fl (n+2) true (.agg (uY e v))=some (.agg (uY e v')):=by
 unfold snap
 simp only[uY,fB,hv]
 rfl
abbrev Z9:List AV:=[.str ⟨#[]⟩,.bool false,.aO,.int .i64 0,.int .i64 0,.int .i64 0,.str ⟨#[]⟩,.int .i64 0,.int .i64 0]
def zI (name:ByteArray) (node:Nat) (vp:Int) (text:ByteArray):vv:=⟨name,false,[0,0,0,0].set node vp,vp,node,0,text,text.size,wq text⟩
theorem MG {l:List Int} (h:l.length=4):zr l=.aU false (ints l) 0 4 1:=by unfold zr Eb;rw[h,if_neg (by omega)]
theorem Ho (h : H) (hf : h.floor ≤ h.next) (e : vv) (v : AV) (hv : v.sc = true) (ok : wM h (e, v)) (hb : e.vec.length < 20000000000000) :
 ∃h' v',aQ AP.A 92 [.agg (uY e v)] h=some (.agg (uY e v'),h')∧v'=(if e.vec=[]then .aD (h.next+2) 0 0 1 else .aD (h.next+3) 0 e.vec.length 1)∧Rd h' v' (ints e.vec)∧h'.floor=h.floor∧h.next+3≤h'.next∧Ext h h'∧(0<e.vec.length→h'.get (h.next+3)=some (ints e.vec)):=by
 obtain⟨h1,eh1⟩:∃g,g=h.alloc (uY e v):=⟨_,rfl⟩
 obtain⟨h2,eh2⟩:∃g,g=h1.alloc (uY zC .aO):=⟨_,rfl⟩
 have n1:h1.next=h.next+1:=by rw[eh1];simp
 have n2:h2.next=h.next+2:=by rw[eh2];simp [n1]
 have f2:h2.floor=h.floor:=by rw[eh2,eh1];simp
 have x2:Ext h h2:=by rw[eh2,eh1];exact((Ext.refl h).alloc _).alloc _
 have ga2:h2.get h.next=some (uY e v):=by rw[eh2,u6 (by omega),eh1,uW rfl]
 have gz2:h2.get (h.next+1)=some (uY zC .aO):=by rw[eh2,uW (by omega)]
 have r2:=(ok.vec.mono fun i c q=>x2 i c q).DZ
 rw[o9]at r2
 obtain⟨v',h3,ap,hv',hcl,hsc,hrd,g3,f3,n3,hget,x3⟩:∃v' h3,kz (h2.alloc []) 1 8 (.aD h2.next 0 0 1) v=some (v',h3)∧v'=(if e.vec=[]then .aD (h.next+2) 0 0 1 else .aD (h.next+3) 0 e.vec.length 1)∧v'.cells=[v']∧v'.sc=true∧Rd h3 v' (ints e.vec)∧
  (∀i,i<h.next+2→h3.get i=h2.get i)∧h3.floor=h.floor∧h.next+3≤h3.next∧(0<e.vec.length→h3.get (h.next+3)=some (ints e.vec))∧Ext h h3:=by
  by_cases c:e.vec=[]
  · rw[c]at r2
    have:=Dn (z:=8) r2
    refine⟨_,_,this,by rw[if_pos c,n2],rfl,rfl, ?_,fun i hi=> ?_,by simp [f2],by simp [n2],fun q=>by rw[c]at q;simp at q,x2.alloc _⟩
    · rw[c]
      refine⟨?_,fun _=>by simp⟩
      simp only[aR,if_true]
      rw[uW (by omega)];rfl
    · rw[u6 (by omega)]
  · have hp:0<e.vec.length:=QK.2 c
    have:=A3 r2 (by omega) (by omega) hp (z:=8) (by simp [roomy];omega) (yT e.vec)
    refine⟨_,_,this,by rw[if_neg c,n2],rfl,rfl, ?_,fun i hi=> ?_,by simp [f2],by simp [n2],fun _=> ?_,fun i d q=> ?_⟩
    · refine⟨?_,fun _=>by simp⟩
      simp only[aR,if_true]
      rw[uW (by simp),um,if_pos (by simp),Qs,uI (by simp),o9]
    · rw[u6 (by simp;omega),H.dX,if_neg (by omega),u6 (by omega)]
    · rw[uW (by simp [n2])]
    · have:=h.lt _ _ q
      rw[u6 (by simp;omega),H.dX,if_neg (by omega),u6 (by omega)];exact x2 i d q
 obtain⟨h4,eh4⟩:∃g,g=h3.set h.next (uY e v'):=⟨_,rfl⟩
 obtain⟨h5,eh5⟩:∃g,g=h4.set (h.next+1) (uY e v'):=⟨_,rfl⟩
 have ga3:h3.get h.next=some (uY e v):=by rw[g3 _ (by omega),ga2]
 have gz3:h3.get (h.next+1)=some (uY zC .aO):=by rw[g3 _ (by omega),gz2]
 have ga4:h4.get h.next=some (uY e v'):=by rw[eh4,uZ rfl,ga3];rfl
 have gz4:h4.get (h.next+1)=some (uY zC .aO):=by rw[eh4,uU (by omega),gz3]
 have gz5:h5.get (h.next+1)=some (uY e v'):=by rw[eh5,uZ rfl,gz4];rfl
 have st4:tD h3 h.next 2 1 [v'] (some (uY e v))=some h4:=by rw[tV (by omega) (by show 2<9;omega) hsc,eh4];rfl
 have st5:tD h4 (h.next+1) 0 9 (uY e v') (some (uY zC .aO))=some h5:=by
  rw[eh5];exact vE (by rw[eh4];simp;omega) rfl rfl (by simp [uY,hsc])
 have e1:h.alloc (uY e v)=h1:=eh1.symm
 have e2:h1.alloc [.str ⟨#[]⟩,.bool false,.aO,.int .i64 0,.int .i64 0,.int .i64 0,.str ⟨#[]⟩,.int .i64 0,.int .i64 0]=h2:=eh2.symm
 have rr:gY true 9 (uY e v') 0=some (.agg (uY e v')):=rfl
 have lE:(uY e v).length=9:=rfl
 have sE:AV.aB (uY e v)=true:=by simp [uY,hv]
 have c2:(uY e v)[2]?=some v:=rfl
 have hg:∀i,i≠h.next→i≠h.next+1→h5.get i=h3.get i:=fun i q1 q2=>by rw[eh5,uU q2,eh4,uU q1]
 have x5:Ext h3 h5→True:=fun _=>trivial
 refine⟨h5,v',ta (fn:=AP.f92) (h2:=h5) (e:=[(2,.aC (h.next+1) 0)]) (vs:=[.agg (uY e v')]) rfl rfl rfl ?_ ?_,hv', ?_,by rw[eh5,eh4];simp [f3],by rw[eh5,eh4];simpa using n3, ?_,fun q=>by rw[hg _ (by omega) (by omega)];exact hget q⟩
 · clear x5 hg x2 x3 g3 hrd hget r2 ok
   generalize uY e v=A at *
   generalize uY e v'=B at *
   simp (disch:=omega)only[go_sem,uX,AP.f92,lE,sE,e1,n1,e2,ga2,u6,c2,ap,ga3,hcl,st4,ga4,rr,gz4,st5]
 · simp only[AP.f92,cJ,mP,mD,qk,gz5,sI];rfl
 · obtain⟨q1,q2⟩:=hrd
   refine⟨?_,q2⟩
   rw[←q1]
   rw[hv']
   by_cases c:e.vec=[]
   · rw[if_pos c];simp only[aR,if_true];rw[hg _ (by omega) (by omega)]
   · rw[if_neg c];simp only[aR,if_true];rw[hg _ (by omega) (by omega)]
 · intro i d q
   have:=h.lt _ _ q
   rw[hg _ (by omega) (by omega)];exact x3 i d q
theorem Ea {v w : AV} {a b : List Int} (hab : a.length = b.length) (hl : a.length < 1125899906842624) (h : H) (ra : Rd h v (ints a)) (rb : Rd h w (ints b)) : ∀ (p q r : List Int) (p' : List Int), a = p ++ q → b = p' ++ r → p.length = p'.length →
 (∃e',Lp AP.A [0,1,5] AP.f106L0 [(0,v),(1,w),(5,.int .i64 p.length)] h=some (.exit 0,e',h)∧decide (q=r)=true)∨
 (∃e',Lp AP.A [0,1,5] AP.f106L0 [(0,v),(1,w),(5,.int .i64 p.length)] h=some (.ret,e',h)∧look e' 4=.bool false∧decide (q=r)=false)
 | p, [], r, p', hp, hq, hpp => by
   have hr:r=[]:=Qw (by rw[hp,hq]at hab;simp at hab;omega)
   left
   have ln:=ra.len
   rw[o9]at ln
   simp only[I]at ln
   rw[Qv]at hp
   refine⟨[(0,v),(1,w),(5,.int .i64 p.length),(14,.bool false)],sN ?_,by rw[hr];rfl⟩
   rw[hp]at ln
   clear hab hl ra rb
   simp (disch:=omega)only[go_sem,uX,AP.f106L0,ln]
 | p, x :: q, [], p', hp, hq, hpp => by
   exfalso
   rw[hp,hq]at hab;simp at hab;omega
 | p, x :: q, y :: r, p', hp, hq, hpp => by
   have ln:=ra.len
   rw[o9]at ln
   simp only[I]at ln
   have hlen:a.length=p.length+(q.length+1):=by rw[hp];simp
   have hx:a[p.length]?=some x:=by rw[hp];simp
   have hy:b[p.length]?=some y:=by rw[hpp,hq];simp
   obtain⟨ad,a1,a2⟩:=ra.wJ
   obtain⟨bd,b1,b2⟩:=rb.wJ
   have i1:=a1 p.length ⟨by omega,by omega⟩
   have i2:=b1 p.length ⟨by omega,by omega⟩
   have l1:=a2 h (Ext.refl h) _ _ hx
   have l2:=b2 h (Ext.refl h) _ _ hy
   have w1:(((p++[x]).length:Nat):Int)=(p.length:Int)+1:=by simp
   have ih:=Ea hab hl h ra rb (p++[x]) q r (p'++[y]) (by rw[hp];simp) (by rw[hq];simp) (by simp;omega)
   rw[w1]at ih
   clear a1 a2 b1 b2 ra rb w1
   by_cases c:x=y
   · have step:aK (aQ AP.A) bA AP.f106L0 (ax [(0,v),(1,w),(5,.int .i64 p.length)] [0,1,5]) h=some (.normal,[(0,v),(1,w),(5,.int .i64 ((p.length:Int)+1))],h):=by
      clear ih hp hq
      simp (disch:=omega)only[go_sem,uX,AP.f106L0,ln,i1,i2,l1,l2]
     have e:decide (x::q=y::r)=decide (q=r):=by simp [c]
     rw[e]
     rcases ih with ⟨e',r1,r2⟩|⟨e',r1,r2,r3⟩
     · exact .inl ⟨e',sP step r1,r2⟩
     · exact .inr ⟨e',sP step r1,r2,r3⟩
   · right
     refine⟨[(4,.bool false)],tk ?_,rfl,by simp [c]⟩
     clear ih hp hq
     simp (disch:=omega)only[go_sem,uX,AP.f106L0,ln,i1,i2,l1,l2]
theorem HV (h:H) (v w:AV) (a b:List Int) (ra:Rd h v (ints a)) (rb:Rd h w (ints b)) (hl:a.length<1125899906842624):aQ AP.A 106 [v,w] h=some (.bool (decide (a=b)),h):=by
 have ra':=ra.mono (vk h)
 have rb':=rb.mono (vk h)
 have la:=ra'.len
 have lb:=rb'.len
 rw[o9]at la lb
 simp only[I]at la lb
 by_cases c:a.length=b.length
 · rcases Ea c hl h.dU ra' rb' [] a b [] rfl rfl rfl with ⟨e',r1,r2⟩|⟨e',r1,r2,r3⟩
   · have r1':Lp AP.A [0,1,5] AP.f106L0 [(0,v),(1,w),(5,.int .i64 0)] h.dU=some (.exit 0,e',h.dU):=r1
     clear r1
     rw[r2]
     refine tB (fn:=AP.f106) (h2:=h.dU) (e:=[(4,.bool true)]) rfl rfl rfl ?_ rfl rfl
     simp (disch:=omega)only[go_sem,uX,AP.f106,la,lb,rH,r1']
   · have r1':Lp AP.A [0,1,5] AP.f106L0 [(0,v),(1,w),(5,.int .i64 0)] h.dU=some (.ret,e',h.dU):=r1
     clear r1
     rw[r3]
     refine tB (fn:=AP.f106) (h2:=h.dU) (e:=e') (vs:=[.bool false]) rfl rfl rfl ?_ (by simp only[AP.f106,cJ,mP,r2];rfl) rfl
     simp (disch:=omega)only[go_sem,uX,AP.f106,la,lb,rH,r1']
 · have e:decide (a=b)=false:=by rw[decide_eq_false_iff_not];intro q;exact c (by rw[q])
   rw[e]
   refine tB (fn:=AP.f106) (h2:=h.dU) (e:=[(4,.bool false)]) rfl rfl rfl ?_ rfl rfl
   simp (disch:=omega)only[go_sem,uX,AP.f106,la,lb]
def zG (a b:vv):Bool:=(a.name.data.toList==b.name.data.toList)&&((a.gone==b.gone)&&(decide (a.vec=b.vec)&&(decide (a.vp=b.vp)&&(decide (a.node=b.node)&&(decide (a.method=b.method)&&((a.packed.data.toList==b.packed.data.toList)&&(decide (a.size=b.size)&&decide (a.zu=b.zu))))))))
theorem yW (a b:vv):zG a b=true↔a=b:=by
 have q:∀x y:ByteArray,(x.data.toList==y.data.toList)=true↔x=y:=fun x y=>by
  constructor
  · intro e;exact ByteArray.ext (Array.toList_inj.1 (eq_of_beq e))
  · rintro rfl;exact Db _
 obtain⟨a1,a2,a3,a4,a5,a6,a7,a8,a9⟩:=a
 obtain⟨b1,b2,b3,b4,b5,b6,b7,b8,b9⟩:=b
 simp only[zG,uu,Qt,q,beq_iff_eq,vv.mk.injEq]
theorem HU (h : H) (a b : vv) (v w : AV) (sa : v.sc = true) (sb : w.sc = true) (ra : wM h (a, v)) (rb : wM h (b, w)) : aQ AP.A 98 [.agg (uY a v), .agg (uY b w)] h = some (.bool (zG a b), h) := by
 obtain⟨h1,eh1⟩:∃g,g=h.dU.alloc (uY a v):=⟨_,rfl⟩
 obtain⟨h2,eh2⟩:∃g,g=h1.alloc (uY b w):=⟨_,rfl⟩
 have x1:Ext h h1:=fun i c q=>by rw[eh1];exact((Ext.refl h.dU).alloc _) i c q
 have x2:Ext h h2:=by rw[eh2];exact x1.alloc _
 have n0:h.dU.next=h.next:=rfl
 have n1:h1.next=h.next+1:=by rw[eh1];simp
 have ga:h2.get h.next=some (uY a v):=by rw[eh2,u6 (by omega),eh1,uW (by simp)]
 have gb:h2.get (h.next+1)=some (uY b w):=by rw[eh2,uW (by omega)]
 have k1:=HV h2 v w a.vec b.vec (ra.mono x2).vec (rb.mono x2).vec ra.vl
 have s1:bp .eql (.str a.name) (.str b.name)=some (.bool (a.name.data.toList==b.name.data.toList)):=yE _ _
 have s2:bp .eql (.str a.packed) (.str b.packed)=some (.bool (a.packed.data.toList==b.packed.data.toList)):=yE _ _
 have e1:h.dU.alloc (uY a v)=h1:=eh1.symm
 have e2:h1.alloc (uY b w)=h2:=eh2.symm
 refine tB (fn:=AP.f98) (h2:=h2) (e:=[(4,.bool (zG a b))]) rfl rfl rfl ?_ rfl rfl
 unfold zG
 clear x1 x2 ra rb eh1 eh2
 generalize (a.name.data.toList==b.name.data.toList)=B1 at *
 generalize (a.packed.data.toList==b.packed.data.toList)=B2 at *
 obtain⟨B3,hB3⟩:∃B,(a.gone==b.gone)=B:=⟨_,rfl⟩
 rw[hB3]
 generalize decide (a.vec=b.vec)=B4 at *
 simp only[uY]at *
 cases B1 with
 |false=>simp (disch:=omega)only[go_sem,uX,AP.f98,sa,sb,n0,e1,n1,e2,ga,gb,s1,s2,hB3,k1]
 | true =>
   cases B3 with
   |false=>simp (disch:=omega)only[go_sem,uX,AP.f98,sa,sb,n0,e1,n1,e2,ga,gb,s1,s2,hB3,k1]
   | true =>
     cases B4 with
     |false=>simp (disch:=omega)only[go_sem,uX,AP.f98,sa,sb,n0,e1,n1,e2,ga,gb,s1,s2,hB3,k1]
     | true =>
       by_cases c3:a.vp=b.vp
       · by_cases c4:a.node=b.node
         · by_cases c5:a.method=b.method
           · cases B2 with
             |false=>simp (disch:=omega)only[go_sem,uX,AP.f98,sa,sb,n0,e1,n1,e2,ga,gb,s1,s2,hB3,k1]
             | true =>
               by_cases c7:a.size=b.size
               · by_cases c8:a.zu=b.zu
                 · simp (disch:=omega)only[go_sem,uX,AP.f98,sa,sb,n0,e1,n1,e2,ga,gb,s1,s2,hB3,k1]
                 · simp (disch:=omega)only[go_sem,uX,AP.f98,sa,sb,n0,e1,n1,e2,ga,gb,s1,s2,hB3,k1]
               · simp (disch:=omega)only[go_sem,uX,AP.f98,sa,sb,n0,e1,n1,e2,ga,gb,s1,s2,hB3,k1]
           · simp (disch:=omega)only[go_sem,uX,AP.f98,sa,sb,n0,e1,n1,e2,ga,gb,s1,s2,hB3,k1]
         · simp (disch:=omega)only[go_sem,uX,AP.f98,sa,sb,n0,e1,n1,e2,ga,gb,s1,s2,hB3,k1]
       · simp (disch:=omega)only[go_sem,uX,AP.f98,sa,sb,n0,e1,n1,e2,ga,gb,s1,s2,hB3,k1]
def nA:ByteArray:=⟨#[97]⟩
def nB:ByteArray:=⟨#[98]⟩
def Dl:ByteArray:=⟨#[104,105]⟩
def eA:vv:=zI nA 0 1 Dl
def eC:vv:=zI nB 0 1 ⟨#[]⟩
theorem wM.ar {h:H} {e:vv} (hv:e.vec.length=4) (nl:e.name.size<1000000) (pl:e.packed.size<1000000):wM h (e,zr e.vec):=
 ⟨by rw[show(e,zr e.vec).2=zr e.vec from rfl,MG hv];have:=xY h e.vec;unfold xK at this;rw[hv]at this;exact this,by show e.vec.length<_;omega,by show e.name.size<_;omega,by show e.packed.size<_;omega⟩
theorem Rd.obj {h:H} {p n:Nat} {l:List Int} (hp:h.get p=some (ints l)) (hl:l.length=n):Rd h (.aD p 0 n 1) (ints l):=
 ⟨by subst hl;simp only[aR,if_true,hp,um];rw[if_pos (by simp),Qs,uI (by simp),o9],fun s e=>by cases e⟩
theorem wM.obj {h:H} {e:vv} {p n:Nat} {l:List Int} (hp:h.get p=some (ints l)) (hl:l.length=n) (he:e.vec=l:=by rfl) (nl:e.name.size<1125899906842624) (pl:e.packed.size<1125899906842624) (hn:n<1000000:=by decide):wM h (e,.aD p 0 n 1):=
 ⟨by show Rd h _ (ints e.vec);rw[he];exact Rd.obj hp hl,by show e.vec.length<_;rw[he];omega,by show e.name.size<_;omega,by show e.packed.size<_;omega⟩
theorem Hq (t:ByteArray):wq t<4294967296:=zh 0 t
theorem Cg (l:List Int):(zr l).sc=true:=by unfold zr Eb;split<;>rfl
theorem wY {e:vv} {v:AV} (h:v.sc=true):AV.aB (uY e v)=true:=by simp [uY,h]
def Dz:Ty:=.int .i64
theorem Gy {B:Nat} {avs:List AV} (h:Sh B Dz avs):∃n,avs=[.int .i64 n]∧(-9223372036854775808≤n∧n<9223372036854775808):=by
 cases h with
 |int h=>exact⟨_,rfl,sZ h⟩
theorem OR {P:Ty×List AV→Prop} {a b:Ty} {r:List (Ty×List AV)} (h:r.map (·.1)=[a,b]) (hp:∀x∈r,P x):∃x y,r=[(a,x),(b,y)]∧P (a,x)∧P (b,y):=by
 match r,h with
 |[(a',x),(b',y)],h=>simp at h;obtain⟨rfl,rfl⟩:=h;exact⟨x,y,rfl,hp _ (by simp),hp _ (by simp)⟩
theorem Ou {a b c d x:aF} {e e':Env} {h h':H} {q:dH} (k:aK (aQ AP.A) bA (.seq a (.seq b (.seq c d))) e h=some (.normal,e',h')) (z:aK (aQ AP.A) bA x e' h'=q):aK (aQ AP.A) bA (.seq a (.seq b (.seq c (.seq d x)))) e h=q:=by
 have st:∀{a b b':aF} {e:Env} {h:H},(∀e h,aK (aQ AP.A) bA b e h=some (.normal,e',h')→aK (aQ AP.A) bA b' e h=q)→aK (aQ AP.A) bA (.seq a b) e h=some (.normal,e',h')→aK (aQ AP.A) bA (.seq a b') e h=q:=fun {a b b' e h} f k=>by
  rw[rk]at k ⊢
  cases hq:aK (aQ AP.A) bA a e h with
  |none=>rw[hq]at k;cases k
  | some r =>
    obtain⟨ex,ev,hr⟩:=r
    cases ex with
    |normal=>rw[hq,r0]at k;rw[r0];exact f _ _ k
    |exit i=>rw[hq]at k;cases k
    |ret=>rw[hq]at k;cases k
 refine st (fun e h=>st (fun e h=>st fun e h k=> ?_)) k
 rw[rk,k,r0];exact z
def Aa (s:ByteArray):List Nat:=s.data.toList.map (·.toNat)
theorem Ee (s:ByteArray):(Aa s).length=s.size:=by unfold Aa;rw[Qr,Array.length_toList];rfl
theorem HY (a b:ByteArray):Aa (a++b)=Aa a++Aa b:=by simp [Aa]
theorem GR (s:ByteArray):∀b∈Aa s,b<256:=by
 intro b hb
 obtain⟨x,_,rfl⟩:=Qy.1 hb
 exact x.toNat_lt
theorem Cz (s:ByteArray):bytesOf (Aa s)=s:=by
 unfold Aa bytesOf;rw[List.map_map];apply ByteArray.ext;simp [Function.comp_def]
theorem Dg {l:List Nat} (h:∀b∈l,b<256):Aa (bytesOf l)=l:=by
 simp only[Aa,bytesOf,List.map_map]
 conv=>rhs;rw[←List.map_id l]
 exact List.map_congr_left fun b hb=>by simp [Function.comp,UInt8.toNat_ofNat_of_lt' (h b hb)]
theorem wV (a b:List Nat):bytesOf a++bytesOf b=bytesOf (a++b):=by
 apply ByteArray.ext;simp [bytesOf]
theorem xt (x k:Nat):∀b∈vt x k,b<256:=by
 intro b hb
 obtain⟨i,_,rfl⟩:=Qy.1 hb
 exact Nat.mod_lt _ (by omega)
theorem HX {a b:ByteArray} (h:a.size+b.size≤9223372036854775807):bp .add (.str a) (.str b)=some (.str (a++b)):=Cj h
theorem xG {a b:List Nat} (h:a.length+b.length≤9223372036854775807):bp .add (.str (bytesOf a)) (.str (bytesOf b))=some (.str (bytesOf (a++b))):=by
 rw[HX (by rw[vH,vH];exact h),wV]
def CE (c:Nat) (l:List Nat):Nat:=l.foldl xa c
theorem Hj {s:ByteArray} {i:Nat} {p q:List Nat} {b:Nat} (h:Aa s=p++b::q) (hi:p.length=i):xC s i=b:=by
 have:(Aa s)[i]?=some b:=by rw[h,←hi];simp
 unfold xC
 unfold Aa at this
 rw[uC]at this
 have e:s[i]?=s.data.toList[i]?:=by
  show s.data[i]?=_
  simp
 rw[e]
 cases hq:s.data.toList[i]? with
 |none=>rw[hq]at this;cases this
 |some x=>rw[hq]at this;simpa using this
theorem Bc (s:ByteArray):∀(q p:List Nat) (c:Nat),Aa s=p++q→wQ s q.length p.length c=CE c q
 |[],p,c,h=>rfl
 | b :: q, p, c, h => by
   show wQ s q.length (p.length+1) (xa c (xC s p.length))=_
   have:=Bc s q (p++[b]) (xa c b) (by rw[h];simp)
   rw[Hj h rfl]
   rw[uN]at this
   exact this
theorem zg (a:Nat) (s:ByteArray):vT a s=4294967295-CE (4294967295-a) (Aa s):=by
 unfold vT
 have:=Bc s (Aa s) [] (4294967295-a) rfl
 rw[Ee]at this
 rw[←this];rfl
theorem DO:∀(l:List Nat) {c:Nat},c<4294967296→(∀b∈l,b<256)→CE c l<4294967296
 |[],_,h,_=>h
 |b::l,_,h,hb=>DO l (xR h (hb b (by simp))) (fun x hx=>hb x (by simp [hx]))
theorem yz {a:Nat} (s t:ByteArray):vT (vT a s) t=vT a (s++t):=by
 rw[zg,zg a,zg a,HY]
 have:=DO (Aa s) (c:=4294967295-a) (by omega) (GR s)
 rw[show 4294967295-(4294967295-CE (4294967295-a) (Aa s))=CE (4294967295-a) (Aa s)by omega]
 simp [CE]
def yb (l:List Nat):Nat:=4294967295-CE 4294967295 l
theorem Ki (s:ByteArray):wq s=yb (Aa s):=zg 0 s
theorem Aj {l:List Nat} (h:∀b∈l,b<256):wq (bytesOf l)=yb l:=by rw[Ki,Dg h]
def Cf (l:List Int):List Nat:=l.flatMap fun n=>vt n.toNat 4
def AY (e:vv):List Nat:=vt 20592 2++vt 22 2++Cf e.vec++vt e.vp.toNat 4++vt e.node.toNat 1++vt (if e.gone then 1 else 0) 1
theorem Di (l:List Int):(Cf l).length=4* l.length:=by
 induction l with
 |nil=>rfl
 |cons n l ih=>unfold Cf at *;rw[List.flatMap_cons,uN,vo,ih,Qm];omega
theorem Eh (l:List Int):∀b∈Cf l,b<256:=by
 intro b hb
 obtain⟨n,_,hn⟩:=List.mem_flatMap.1 hb
 exact xt _ _ b hn
theorem HQ (e:vv):∀b∈AY e,b<256:=by
 intro b hb
 unfold AY at hb
 simp only[List.mem_append]at hb
 rcases hb with ((((hb|hb)|hb)|hb)|hb)|hb
 · exact xt _ _ b hb
 · exact xt _ _ b hb
 · exact Eh _ b hb
 · exact xt _ _ b hb
 · exact xt _ _ b hb
 · exact xt _ _ b hb
def Mr (e:vv):AV:=if vN e=true then .bO [.str (bytesOf (AY e)),.int .i64 0]else .bO [.str ⟨#[]⟩,.int .i64 1200]
theorem xo {e:vv} (h:vN e=true):e.vec.length=4∧(∀n∈e.vec,0≤n∧n≤1048576)∧(1≤e.vp∧e.vp≤1048576)∧(0≤e.node∧e.node<4):=by
 simp only[vN,w8,wX,vD,uu,Qt,QE]at h
 exact⟨h.1.1,h.1.2,⟨h.2.1,h.2.2.1.2⟩,h.2.2.2⟩
theorem C4 {v P:AV} {l:List Int} (hl:l.length<1000000) (hn:∀n∈l,0≤n∧n≤1048576) (h:H) (rd:Rd h v (ints l)):∀(q p:List Int) (acc:List Nat),l=p++q→acc.length+4* q.length<100000000→
 ∃e',Lp AP.A [1,4,14,15,16] AP.f102L0 [(1,P),(4,.str (bytesOf acc)),(14,v),(15,.int .i64 l.length),(16,.int .i64 p.length)] h=some (.exit 0,e',h)∧look e' 1=P∧look e' 4=.str (bytesOf (acc++Cf q))
 | [], p, acc, hp, ha => by
   refine⟨[(1,P),(4,.str (bytesOf acc)),(14,v),(15,.int .i64 l.length),(16,.int .i64 p.length),(17,.bool false)],sN ?_,rfl,by simp [Cf,look]⟩
   have e:l.length=p.length:=by rw[hp];simp
   rw[e]
   simp (disch:=first|omega|(simp only[wz,Qm,Qo,uy,Nat.reduceAdd];first|done|omega|fail)|(simp (disch:=first|omega|(simp only[wz,Qm,Qo,uy,Nat.reduceAdd];first|done|omega|fail)|fail)only[wz,AA,Qp,Qm,Qo,uy,Nat.reduceAdd];done)|fail)only[go_sem,uX,Ch,AP.f102L0]
 | n :: q, p, acc, hp, ha => by
   rw[Qm]at ha
   obtain⟨e',r1,r2,r3⟩:=C4 (P:=P) hl hn h rd q (p++[n]) (acc++vt n.toNat 4) (by rw[hp];simp) (by rw[uN,vo];omega)
   obtain⟨ad,a1,a2⟩:=rd.wJ
   have hlen:l.length=p.length+(q.length+1):=by rw[hp];simp
   have i1:=a1 (p.length:Int) ⟨by omega,by omega⟩
   have i2:=a2 h (Ext.refl h) p.length n (by rw[hp];simp)
   have bn:=hn n (by rw[hp];simp)
   have k1:=fun g=>yI g n.toNat 4 (by omega) (by omega)
   rw[show((n.toNat:Nat):Int)=n by omega]at k1
   have s1:bp .add (.str (bytesOf acc)) (.str (FU n.toNat 4))=some (.str (bytesOf (acc++vt n.toNat 4))):=xG (by rw[vo];omega)
   have n1:((p.length+1:Nat):Int)=(p.length:Int)+1:=by omega
   rw[uN,show [n].length=1 from rfl,n1]at r1
   refine⟨e',sP ?_ r1,r2,by rw[r3];simp [Cf]⟩
   have k1':∀g:H,aQ AP.A 104 [.int .i64 n,.int .i64 4] g=some (.str (FU n.toNat 4),g):=k1
   simp (disch:=first|omega|(simp only[wz,Qm,Qo,uy,Nat.reduceAdd];first|done|omega|fail)|(simp (disch:=first|omega|(simp only[wz,Qm,Qo,uy,Nat.reduceAdd];first|done|omega|fail)|fail)only[wz,AA,Qp,Qm,Qo,uy,Nat.reduceAdd];done)|fail)only[go_sem,uX,Ch,AP.f102L0,i1,i2,k1',s1]
theorem PE.obj {h:H} {id:Nat} {cs:List AV} (hg:h.get id=some cs):PE h (.aC id 0) cs:=
 ⟨fun g=>rfl,fun k=>.aC id (0+k),fun k=>rfl,fun g hx k c hc=>by
  show bS false 1 (.aC id (0+k)) g=_
  rw[uy]
  simp only[bS,hx _ _ hg,um,gY,hc];rfl⟩
theorem Kq (h:H) (hf:h.floor≤h.next) (e:vv) (v:AV) (hv:v.sc=true) (ok:wM h (e,v)):aQ AP.A 102 [.agg (uY e v)] h=some (Mr e,h):=by
 obtain⟨A,hA⟩:∃x,x=uY e v:=⟨_,rfl⟩
 have lA:A.length=9:=by rw[hA];rfl
 have cA:AV.aB A=true:=by rw[hA];exact wY hv
 have g2:A[2]?=some v:=by rw[hA];rfl
 have g1:A[1]?=some (.bool e.gone):=by rw[hA];rfl
 have g3:A[3]?=some (.int .i64 e.vp):=by rw[hA];rfl
 have g4:A[4]?=some (.int .i64 e.node):=by rw[hA];rfl
 have x1:Ext h (h.dU.alloc A):=fun i c q=>((Ext.refl h.dU).alloc _) i c q
 have o1:=ok.mono x1
 have q1:aQ AP.A 112 [.aC h.next 0] (h.dU.alloc A)=some (.bool (vN e),h.dU.alloc A):=by
  refine FN (h.dU.alloc A) (.aC h.next 0) v e ?_ o1.vec o1.vl
  rw[←hA];exact PE.obj (uW (by simp))
 unfold Mr
 cases hh:vN e with
 | false =>
   rw[hh]at q1
   rw[if_neg (by decide)]
   refine tB (fn:=AP.f102) (h2:=h.dU.alloc A) (e:=[(2,.str ⟨#[]⟩),(3,.int .i64 1200)]) rfl rfl rfl ?_ rfl rfl
   rw[←hA]
   simp (disch:=first|omega|(simp only[wz,Qm,Qo,uy,Nat.reduceAdd];first|done|omega|fail)|(simp (disch:=first|omega|(simp only[wz,Qm,Qo,uy,Nat.reduceAdd];first|done|omega|fail)|fail)only[wz,AA,Qp,Qm,Qo,uy,Nat.reduceAdd];done)|fail)only[go_sem,uX,Ch,AP.f102,lA,cA,q1]
 | true =>
   rw[hh]at q1
   rw[if_pos rfl]
   obtain⟨f1,f2,f3,f4⟩:=xo hh
   have k1:∀g,aQ AP.A 104 [.int .i64 20592,.int .i64 2] g=some (.str (bytesOf (vt 20592 2)),g):=fun g=>yI g 20592 2 (by omega) (by omega)
   have k2:∀g,aQ AP.A 104 [.int .i64 22,.int .i64 2] g=some (.str (bytesOf (vt 22 2)),g):=fun g=>yI g 22 2 (by omega) (by omega)
   have k3:∀g,aQ AP.A 104 [.int .i64 e.vp,.int .i64 4] g=some (.str (bytesOf (vt e.vp.toNat 4)),g):=fun g=>by
    have:=yI g e.vp.toNat 4 (by omega) (by omega)
    rw[show((e.vp.toNat:Nat):Int)=e.vp by omega]at this;exact this
   have k4:∀g,aQ AP.A 104 [.int .i64 e.node,.int .i64 1] g=some (.str (bytesOf (vt e.node.toNat 1)),g):=fun g=>by
    have:=yI g e.node.toNat 1 (by omega) (by omega)
    rw[show((e.node.toNat:Nat):Int)=e.node by omega]at this;exact this
   have k5:∀g,aQ AP.A 104 [.int .i64 0,.int .i64 1] g=some (.str (bytesOf (vt 0 1)),g):=fun g=>yI g 0 1 (by omega) (by omega)
   have k6:∀g,aQ AP.A 104 [.int .i64 1,.int .i64 1] g=some (.str (bytesOf (vt 1 1)),g):=fun g=>yI g 1 1 (by omega) (by omega)
   have ln:=o1.vec.len
   rw[o9]at ln
   simp only[I]at ln
   obtain⟨e',r1,r2,r3⟩:=C4 (P:=.aC h.next 0) (by omega) f2 (h.dU.alloc A) o1.vec e.vec [] (vt 20592 2++vt 22 2) rfl (by rw[uN,vo,vo];omega)
   have r1':Lp AP.A [1,4,14,15,16] AP.f102L0 [(1,.aC h.next 0),(4,.str (bytesOf (vt 20592 2++vt 22 2))),(14,v),(15,.int .i64 e.vec.length),(16,.int .i64 0)] (h.dU.alloc A)=some (.exit 0,e',h.dU.alloc A):=r1
   clear r1
   have vl:=Di e.vec
   have s1:bp .add (.str (bytesOf (vt 20592 2))) (.str (bytesOf (vt 22 2)))=some (.str (bytesOf (vt 20592 2++vt 22 2))):=xG (by rw[vo,vo];omega)
   obtain⟨L1,hL1⟩:∃x,x=vt 20592 2++vt 22 2++Cf e.vec:=⟨_,rfl⟩
   have l1:L1.length=20:=by rw[hL1,uN,uN,vo,vo,vl,f1]
   obtain⟨S1,h1⟩:∃x,x=bytesOf L1:=⟨_,rfl⟩
   obtain⟨S2,h2⟩:∃x,x=bytesOf (L1++vt e.vp.toNat 4):=⟨_,rfl⟩
   obtain⟨S3,h3⟩:∃x,x=bytesOf (L1++vt e.vp.toNat 4++vt e.node.toNat 1):=⟨_,rfl⟩
   obtain⟨S4,h4⟩:∃x,x=bytesOf (L1++vt e.vp.toNat 4++vt e.node.toNat 1++vt (if e.gone then 1 else 0) 1):=⟨_,rfl⟩
   have s2:bp .add (.str S1) (.str (bytesOf (vt e.vp.toNat 4)))=some (.str S2):=by rw[h1,h2];exact xG (by rw[vo];omega)
   have s3:bp .add (.str S2) (.str (bytesOf (vt e.node.toNat 1)))=some (.str S3):=by rw[h2,h3];exact xG (by rw[uN,vo,vo];omega)
   have s4:bp .add (.str S3) (.str (bytesOf (vt (if e.gone then 1 else 0) 1)))=some (.str S4):=by rw[h3,h4];exact xG (by rw[uN,uN,vo,vo,vo];omega)
   rw[show vt 20592 2++vt 22 2++Cf e.vec=L1 from hL1.symm,←h1]at r3
   unfold AY
   rw[←hL1,←hA,←h4]
   clear hL1 o1 x1 ok h1 h2 h3 h4
   refine tB (fn:=AP.f102) (h2:=h.dU.alloc A) (e:=[(2,.str S4),(3,.int .i64 0)]) rfl rfl rfl ?_ rfl rfl
   cases hg:e.gone with
   | true =>
     rw[hg]at g1 s4
     rw[if_pos rfl]at s4
     simp (disch:=first|omega|(simp only[wz,Qm,Qo,uy,Nat.reduceAdd];first|done|omega|fail)|(simp (disch:=first|omega|(simp only[wz,Qm,Qo,uy,Nat.reduceAdd];first|done|omega|fail)|fail)only[wz,AA,Qp,Qm,Qo,uy,Nat.reduceAdd];done)|fail)only[go_sem,uX,Ch,AP.f102,lA,cA,q1,k1,k2,k3,k4,k5,k6,s1,s2,s3,s4,g1,g2,g3,g4,ln,rH,r1',r2,r3]
   | false =>
     rw[hg]at g1 s4
     rw[if_neg (by decide)]at s4
     simp (disch:=first|omega|(simp only[wz,Qm,Qo,uy,Nat.reduceAdd];first|done|omega|fail)|(simp (disch:=first|omega|(simp only[wz,Qm,Qo,uy,Nat.reduceAdd];first|done|omega|fail)|fail)only[wz,AA,Qp,Qm,Qo,uy,Nat.reduceAdd];done)|fail)only[go_sem,uX,Ch,AP.f102,lA,cA,q1,k1,k2,k3,k4,k5,k6,s1,s2,s3,s4,g1,g2,g3,g4,ln,rH,r1',r2,r3]
def CF (e:vv):List Nat:=vt e.name.size 1++Aa e.name++AY e++vt e.zu.toNat 4
def Kk (e:vv):Option Nat:=if vV e=true then some (yb (CF e))else none
def Oy:Option Nat→AV
 |some n=>.bO [.int .i64 n,.int .i64 0]
 |none=>.bO [.int .i64 0,.int .i64 1500]
theorem Dc (l:List Nat):yb l<4294967296:=by unfold yb;omega
theorem DP (p:Nat) (ss:List ByteArray) (h:H) (hg:h.get p=some (ss.map AV.str)) (hs:∀s∈ss,s.size<1125899906842624) (hl:ss.length<1000000):∀(q pr:List ByteArray) (a:Nat),ss=pr++q→a<4294967296→
 ∃e',Lp AP.A [6,7,28,29,30] AP.f91L0 [(6,.fn 103 [] []),(7,.int .i64 a),(28,.aD p 0 ss.length 1),(29,.int .i64 ss.length),(30,.int .i64 pr.length)] h=some (.exit 0,e',h)∧look e' 7=.int .i64 (q.foldl vT a:Nat)
 | [], pr, a, hp, ha => by
   have e:ss.length=pr.length:=by rw[hp];simp
   refine⟨[(6,.fn 103 [] []),(7,.int .i64 a),(28,.aD p 0 ss.length 1),(29,.int .i64 ss.length),(30,.int .i64 pr.length),(31,.bool false)],sN ?_,rfl⟩
   rw[e]
   simp (disch:=first|omega|(simp only[wz,Qm,Qo,uy,Nat.reduceAdd];first|done|omega|fail)|(simp (disch:=first|omega|(simp only[wz,Qm,Qo,uy,Nat.reduceAdd];first|done|omega|fail)|fail)only[wz,AA,Qp,Qm,Qo,uy,Nat.reduceAdd];done)|fail)only[go_sem,uX,Ch,AP.f91L0]
 | s :: q, pr, a, hp, ha => by
   obtain⟨e',r1,r2⟩:=DP p ss h hg hs hl q (pr++[s]) (vT a s) (by rw[hp];simp) (zh a s)
   have hlen:ss.length=pr.length+(q.length+1):=by rw[hp];simp
   have k1:=DA h s a ha (hs s (by rw[hp];simp))
   have g1:(ss.map AV.str)[pr.length]?=some (.str s):=by rw[hp];simp
   have n1:((pr.length+1:Nat):Int)=(pr.length:Int)+1:=by omega
   rw[uN,show [s].length=1 from rfl,n1]at r1
   refine⟨e',sP ?_ r1,r2⟩
   simp (disch:=first|omega|(simp only[wz,Qm,Qo,uy,Nat.reduceAdd];first|done|omega|fail)|(simp (disch:=first|omega|(simp only[wz,Qm,Qo,uy,Nat.reduceAdd];first|done|omega|fail)|fail)only[wz,AA,Qp,Qm,Qo,uy,Nat.reduceAdd];done)|fail)only[go_sem,uX,Ch,AP.f91L0,hg,k1,g1]
theorem L7 (a b c d:ByteArray):[a,b,c,d].foldl vT 0=wq (a++b++c++d):=by
 show vT (vT (vT (vT 0 a) b) c) d=vT 0 _
 rw[yz,yz,yz]
 congr 1
 simp only[ByteArray.append_assoc]
theorem EI (s:ByteArray):CN s=true↔s.size=0:=by
 unfold CN
 rw[beq_iff_eq]
 constructor
 · intro h;rw[←Ee];unfold Aa;rw[h];rfl
 · intro h
   have:s.data.toList.length=0:=by rw[Array.length_toList];exact h
   rw[Qw this]
theorem EP {e:vv} (h:vV e=true):vN e=true∧(1≤e.name.size∧e.name.size≤8)∧0≤e.zu∧e.zu≤4294967295:=by
 unfold vV yw at h
 split at h
 · cases h
 · rename_i hm
   have hm:wW [e]=true:=by cases q:wW [e]with|true=>rfl|false=>exact absurd q hm
   simp only[wW,xS,z5,uu,Bool.and_true]at hm
   obtain⟨⟨h1,h2,h3⟩,_⟩:=hm
   refine⟨h2, ?_, ?_⟩
   · simp only[vO,uu,Qt]at h1
     exact⟨h1.1,h1.2.1⟩
   · unfold wF at h3
     split at h3
     · simp only[uu,Qt]at h3;omega
     · simp only[uu,Qt,yU]at h3;omega
theorem Hr (e:vv):∀b∈CF e,b<256:=by
 intro b hb
 unfold CF at hb
 simp only[List.mem_append]at hb
 rcases hb with ((hb|hb)|hb)|hb
 · exact xt _ _ b hb
 · exact GR _ b hb
 · exact HQ _ b hb
 · exact xt _ _ b hb
theorem Hs (e:vv):bytesOf (vt e.name.size 1)++e.name++bytesOf (AY e)++bytesOf (vt e.zu.toNat 4)=bytesOf (CF e):=by
 unfold CF
 rw[←wV,←wV,←wV,Cz]
theorem Gj {e:vv} (h:vN e=true):(AY e).length=26:=by
 obtain⟨f1,_⟩:=xo h
 unfold AY
 simp only[uN,vo,Di,f1]
set_option maxHeartbeats 1000000 in
theorem Fx (h:H) (hf:h.floor≤h.next) (e:vv) (v:AV) (hv:v.sc=true) (ok:wM h (e,v)):aQ AP.A 91 [.agg (uY e v)] h=some (Oy (Kk e),h):=by
 obtain⟨A,hA⟩:∃x,x=uY e v:=⟨_,rfl⟩
 have lA:A.length=9:=by rw[hA];rfl
 have cA:AV.aB A=true:=by rw[hA];exact wY hv
 have tA:List.take 9 A=A:=by rw[hA];rfl
 have g0:A[0]?=some (.str e.name):=by rw[hA];rfl
 have g8:A[8]?=some (.int .i64 e.zu):=by rw[hA];rfl
 have x1:Ext h (h.dU.alloc A):=fun i c q=>((Ext.refl h.dU).alloc _) i c q
 have o1:=ok.mono x1
 have f1:(h.dU.alloc A).floor≤(h.dU.alloc A).next:=by simp
 have q1:aQ AP.A 96 [.agg A] (h.dU.alloc A)=some (.bool (vV e),h.dU.alloc A):=by
  have:=Dw (h.dU.alloc A) f1 e v hv o1
  rw[←hA]at this;exact this
 unfold Kk
 cases hm:vV e with
 | false =>
   rw[hm]at q1
   rw[if_neg (by decide)]
   refine tB (fn:=AP.f91) (h2:=h.dU.alloc A) (e:=[(2,.int .i64 0),(3,.int .i64 1500)]) rfl rfl rfl ?_ rfl rfl
   rw[←hA]
   simp (disch:=first|omega|(simp only[wz,Qm,Qo,uy,Nat.reduceAdd];first|done|omega|fail)|(simp (disch:=first|omega|(simp only[wz,Qm,Qo,uy,Nat.reduceAdd];first|done|omega|fail)|fail)only[wz,AA,Qp,Qm,Qo,uy,Nat.reduceAdd];done)|fail)only[go_sem,uX,Ch,AP.f91,lA,cA,tA,q1]
 | true =>
   rw[hm]at q1
   rw[if_pos rfl]
   obtain⟨m1,m2,m3⟩:=EP hm
   have q2:aQ AP.A 102 [.agg A] (h.dU.alloc A)=some (.bO [.str (bytesOf (AY e)),.int .i64 0],h.dU.alloc A):=by
    have:=Kq (h.dU.alloc A) f1 e v hv o1
    unfold Mr at this
    rw[if_pos m1,←hA]at this;exact this
   have q3:∀g,aQ AP.A 104 [.int .i64 e.name.size,.int .i64 1] g=some (.str (bytesOf (vt e.name.size 1)),g):=fun g=>yI g e.name.size 1 (by omega) (by omega)
   have q4:∀g,aQ AP.A 104 [.int .i64 e.zu,.int .i64 4] g=some (.str (bytesOf (vt e.zu.toNat 4)),g):=fun g=>by
    have:=yI g e.zu.toNat 4 (by omega) (by omega)
    rw[show((e.zu.toNat:Nat):Int)=e.zu by omega]at this;exact this
   have pl:=Gj m1
   obtain⟨T1,e1⟩:∃x,x=bytesOf (vt e.name.size 1):=⟨_,rfl⟩
   obtain⟨T3,e3⟩:∃x,x=bytesOf (AY e):=⟨_,rfl⟩
   obtain⟨T4,e4⟩:∃x,x=bytesOf (vt e.zu.toNat 4):=⟨_,rfl⟩
   have ds:=Hs e
   rw[←e1,←e3,←e4]at ds
   rw[←e3]at q2
   rw[←e1]at q3
   rw[←e4]at q4
   have t1:T1.size=1:=by rw[e1,vH,vo]
   have t3:T3.size=26:=by rw[e3,vH,pl]
   have t4:T4.size=4:=by rw[e4,vH,vo]
   obtain⟨e',r1,r2⟩:=DP (h.next+1) [T1,e.name,T3,T4] ((h.dU.alloc A).alloc [.str T1,.str e.name,.str T3,.str T4]) (uW (by simp)) (by
    intro s hs
    simp only[uK,List.mem_nil_iff,or_false]at hs
    rcases hs with rfl|rfl|rfl|rfl<;>omega) (by simp) [T1,e.name,T3,T4] [] 0 rfl (by omega)
   rw[L7,ds,Aj (Hr e)]at r2
   have r1':Lp AP.A [6,7,28,29,30] AP.f91L0 [(6,.fn 103 [] []),(7,.int .i64 0),(28,.aD (h.next+1) 0 4 1),(29,.int .i64 4),(30,.int .i64 0)] ((h.dU.alloc A).alloc [.str T1,.str e.name,.str T3,.str T4])=some (.exit 0,e',(h.dU.alloc A).alloc [.str T1,.str e.name,.str T3,.str T4]):=r1
   clear r1
   refine tB (fn:=AP.f91) (h2:=(h.dU.alloc A).alloc [.str T1,.str e.name,.str T3,.str T4]) (e:=[(2,.int .i64 (yb (CF e))),(3,.int .i64 0)]) rfl rfl rfl ?_ rfl rfl
   rw[←hA]
   clear ds e1 e3 e4 o1 x1 ok
   simp (disch:=first|omega|(simp only[wz,Qm,Qo,uy,Nat.reduceAdd];first|done|omega|fail)|(simp (disch:=first|omega|(simp only[wz,Qm,Qo,uy,Nat.reduceAdd];first|done|omega|fail)|fail)only[wz,AA,Qp,Qm,Qo,uy,Nat.reduceAdd];done)|fail)only[go_sem,uX,Ch,AP.f91,lA,cA,tA,q1,q2,q3,q4,g0,g8,rH,r1',r2]
def zR (l:List Int):List Nat:=l.flatMap fun n=>vt n.toNat 4
def CQ (l:List Int):Option Nat:=if l.all yU=true then some (yb (zR l))else none
theorem FX (l:List Int):∀b∈zR l,b<256:=Eh l
theorem Bm {v : AV} {l : List Int} (hl : l.length < 1125899906842624) (h : H) (rd : Rd h v (ints l)) : ∀ (q p : List Int) (a : Nat), l = p ++ q → a < 4294967296 →
 (q.all yU=true∧∃e',Lp AP.A [4,7,8,9] AP.f93L0 [(4,.int .i64 a),(7,v),(8,.int .i64 l.length),(9,.int .i64 p.length)] h=some (.exit 0,e',h)∧look e' 4=.int .i64 (vT a (bytesOf (zR q)):Nat))∨
 (q.all yU=false∧∃e',Lp AP.A [4,7,8,9] AP.f93L0 [(4,.int .i64 a),(7,v),(8,.int .i64 l.length),(9,.int .i64 p.length)] h=some (.ret,e',h)∧look e' 2=.int .i64 0∧look e' 3=.int .i64 1500)
 | [], p, a, hp, ha => by
   left
   have e:l.length=p.length:=by rw[hp];simp
   refine⟨rfl,[(4,.int .i64 a),(7,v),(8,.int .i64 l.length),(9,.int .i64 p.length),(10,.bool false)],sN ?_, ?_⟩
   · rw[e]
     simp (disch:=first|omega|(simp only[wz,Qm,Qo,uy,Nat.reduceAdd];first|done|omega|fail)|(simp (disch:=first|omega|(simp only[wz,Qm,Qo,uy,Nat.reduceAdd];first|done|omega|fail)|fail)only[wz,AA,Qp,Qm,Qo,uy,Nat.reduceAdd];done)|fail)only[go_sem,uX,Ch,AP.f93L0]
   · show AV.int .i64 (a:Int)=.int .i64 ((vT a (bytesOf []):Nat):Int)
     rw[zg]
     have:CE (4294967295-a) (Aa (bytesOf []))=4294967295-a:=rfl
     rw[this];congr 1;omega
 | n :: q, p, a, hp, ha => by
   obtain⟨ad,a1,a2⟩:=rd.wJ
   have hlen:l.length=p.length+(q.length+1):=by rw[hp];simp
   have i1:=a1 (p.length:Int) ⟨by omega,by omega⟩
   have i2:=a2 h (Ext.refl h) p.length n (by rw[hp];simp)
   have k1:=HD h n
   rw[List.all_cons]
   cases hn:yU n with
   | false =>
     rw[hn]at k1
     right
     refine⟨rfl,[(2,.int .i64 0),(3,.int .i64 1500)],tk ?_,rfl,rfl⟩
     simp (disch:=first|omega|(simp only[wz,Qm,Qo,uy,Nat.reduceAdd];first|done|omega|fail)|(simp (disch:=first|omega|(simp only[wz,Qm,Qo,uy,Nat.reduceAdd];first|done|omega|fail)|fail)only[wz,AA,Qp,Qm,Qo,uy,Nat.reduceAdd];done)|fail)only[go_sem,uX,Ch,AP.f93L0,i1,i2,k1]
   | true =>
     rw[hn]at k1
     rw[QB]
     simp only[yU,Qt]at hn
     have k2:∀g,aQ AP.A 104 [.int .i64 n,.int .i64 4] g=some (.str (bytesOf (vt n.toNat 4)),g):=fun g=>by
      have:=yI g n.toNat 4 (by omega) (by omega)
      rw[show((n.toNat:Nat):Int)=n by omega]at this;exact this
     have k3:=DA h (bytesOf (vt n.toNat 4)) a ha (by rw[vH,vo];omega)
     have n1:((p.length+1:Nat):Int)=(p.length:Int)+1:=by omega
     have ih:=Bm hl h rd q (p++[n]) (vT a (bytesOf (vt n.toNat 4))) (by rw[hp];simp) (zh _ _)
     rw[uN,show [n].length=1 from rfl,n1,yz,wV]at ih
     rcases ih with ⟨g1,e',r1,r2⟩|⟨g1,e',r1,r2⟩
     · left
       refine⟨g1,e',sP ?_ r1,r2⟩
       simp (disch:=first|omega|(simp only[wz,Qm,Qo,uy,Nat.reduceAdd];first|done|omega|fail)|(simp (disch:=first|omega|(simp only[wz,Qm,Qo,uy,Nat.reduceAdd];first|done|omega|fail)|fail)only[wz,AA,Qp,Qm,Qo,uy,Nat.reduceAdd];done)|fail)only[go_sem,uX,Ch,AP.f93L0,i1,i2,k1,k2,k3]
     · right
       refine⟨g1,e',sP ?_ r1,r2⟩
       simp (disch:=first|omega|(simp only[wz,Qm,Qo,uy,Nat.reduceAdd];first|done|omega|fail)|(simp (disch:=first|omega|(simp only[wz,Qm,Qo,uy,Nat.reduceAdd];first|done|omega|fail)|fail)only[wz,AA,Qp,Qm,Qo,uy,Nat.reduceAdd];done)|fail)only[go_sem,uX,Ch,AP.f93L0,i1,i2,k1,k2,k3]
theorem FZ (h:H) (v:AV) (l:List Int) (rd:Rd h v (ints l)) (hl:l.length<1125899906842624):aQ AP.A 93 [v] h=some (Oy (CQ l),h):=by
 have rd':=rd.mono (vk h)
 have ln:=rd'.len
 rw[o9]at ln
 simp only[I]at ln
 unfold CQ
 rcases Bm hl h.dU rd' l [] 0 rfl (by omega)with ⟨g1,e',r1,r2⟩|⟨g1,e',r1,r2,r3⟩
 · rw[if_pos g1]
   have r1':Lp AP.A [4,7,8,9] AP.f93L0 [(4,.int .i64 0),(7,v),(8,.int .i64 l.length),(9,.int .i64 0)] h.dU=some (.exit 0,e',h.dU):=r1
   have r2':look e' 4=.int .i64 (yb (zR l)):=by rw[r2,←Aj (FX l)];rfl
   refine tB (fn:=AP.f93) (h2:=h.dU) (e:=[(2,.int .i64 (yb (zR l))),(3,.int .i64 0)]) rfl rfl rfl ?_ rfl rfl
   simp (disch:=first|omega|(simp only[wz,Qm,Qo,uy,Nat.reduceAdd];first|done|omega|fail)|(simp (disch:=first|omega|(simp only[wz,Qm,Qo,uy,Nat.reduceAdd];first|done|omega|fail)|fail)only[wz,AA,Qp,Qm,Qo,uy,Nat.reduceAdd];done)|fail)only[go_sem,uX,Ch,AP.f93,ln,rH,r1',r2']
 · rw[if_neg (by rw[g1];decide)]
   have r1':Lp AP.A [4,7,8,9] AP.f93L0 [(4,.int .i64 0),(7,v),(8,.int .i64 l.length),(9,.int .i64 0)] h.dU=some (.ret,e',h.dU):=r1
   refine tB (fn:=AP.f93) (h2:=h.dU) (e:=e') rfl rfl rfl ?_ (by simp only[AP.f93,cJ,mP,r2,r3];rfl) rfl
   simp (disch:=first|omega|(simp only[wz,Qm,Qo,uy,Nat.reduceAdd];first|done|omega|fail)|(simp (disch:=first|omega|(simp only[wz,Qm,Qo,uy,Nat.reduceAdd];first|done|omega|fail)|fail)only[wz,AA,Qp,Qm,Qo,uy,Nat.reduceAdd];done)|fail)only[go_sem,uX,Ch,AP.f93,ln,rH,r1']
def MN (e:vv):Nat:=128+2* e.name.size+e.packed.size
def Bx:List vv→Nat
 |[]=>0
 |e::l=>MN e+Bx l
theorem Ed (a b:List vv):Bx (a++b)=Bx a+Bx b:=by
 induction a with
 |nil=>simp [Bx]
 |cons x a ih=>rw[List.cons_append,Bx,Bx,ih];omega
def xx (l:List vv):Nat:=22+Bx l
def vQ (l:List vv):Bool:=wW l&&l.all vV
theorem CR:∀{l:List vv} {p:Option vv},xS p l=true→∀e∈l,vO e.name=true∧vN e=true∧wF e=true
 |[],_,_,e,h=>by cases h
 | x :: l, p, hm, e, h => by
   rw[xS,uu]at hm
   rcases uK.1 h with rfl|h
   · have:=hm.1
     unfold x9 at this
     simp only[uu]at this
     exact⟨this.1,this.2.2.1,this.2.2.2⟩
   · exact CR hm.2 e h
theorem yQ {e:vv} (h:wF e=true):e.packed.size≤300:=by
 unfold wF at h
 split at h
 · simp only[uu]at h
   have:=(EI _).1 h.2.1
   omega
 · simp only[uu,uG,Qt]at h
   omega
theorem wB {s:ByteArray} (h:vO s=true):1≤s.size∧s.size≤8:=by
 unfold vO at h
 simp only[uu,Qt]at h
 omega
theorem GP:∀{l:List vv},(∀e∈l,vO e.name=true∧vN e=true∧wF e=true)→Bx l≤444* l.length
 |[],_=>by simp [Bx]
 | e :: l, h => by
   have i:=GP (l:=l) fun x hx=>h x (by simp [hx])
   obtain⟨h1,_,h3⟩:=h e (by simp)
   have:=wB h1
   have:=yQ h3
   rw[Bx,Qm];unfold MN;omega
theorem vC {l:List vv} (h:wW l=true):l.length≤6∧(∀e∈l,vO e.name=true∧vN e=true∧wF e=true)∧xx l≤4096:=by
 unfold wW at h
 simp only[uu,Qt]at h
 have a:=CR h.1
 have:=GP a
 exact⟨h.2,a,by unfold xx;omega⟩
def EY (e:vv):Nat:=wq e.name%8
def Kj (e:vv):Int:=((yb (CF e):Nat):Int)
def yF (l:List vv) (b:Nat):List Int:=(l.filter fun e=>EY e==b).map Kj
theorem Ey (l:List vv) (e:vv) (b:Nat):yF (l++[e]) b=if EY e=b then yF l b++[Kj e]else yF l b:=by
 unfold yF
 rw[List.filter_append,QG]
 by_cases c:EY e=b
 · rw[if_pos c];simp [c]
 · rw[if_neg c];simp [c]
theorem Cx (l:List vv) (b:Nat):(yF l b).length≤l.length:=by
 unfold yF;rw[Qr];exact List.length_filter_le _ _
theorem Hi (l:List vv) (b:Nat):(yF l b).all yU=true:=by
 unfold yF
 rw[List.all_map,QE]
 intro e _
 have:=Dc (CF e)
 simp [Function.comp,yU,Kj]
 omega
def vK (l:List Int):Int:=((yb (zR l):Nat):Int)
theorem FW {l:List Int} (h:l.all yU=true):CQ l=some (yb (zR l)):=by unfold CQ;rw[if_pos h]
theorem FY (l:List Int):yU (vK l)=true:=by
 have:=Dc (zR l)
 simp [yU,vK]
 omega
def vw (l:List vv):List Int:=(List.range 8).map fun b=>vK (yF l b)
theorem vm (l:List vv):(vw l).length=8:=by simp [vw]
theorem CG (l:List vv):(vw l).all yU=true:=by
 unfold vw
 rw[List.all_map,QE]
 exact fun b _=>FY _
def xF:Option Int→List Int→Bool
 |_,[]=>true
 |p,b::l=>(decide (0≤b)&&(decide (b<8)&&(match p with|none=>true|some q=>decide (q<b))))&&xF (some b) l
def yH (l:List Int):Bool:=xF none l
abbrev E1:=ByteArray×List Int
def vP (l:List vv) (bs:List Int):List E1:=(l.filter fun e=>bs.contains ((EY e:Nat):Int)).map fun e=>(e.name,e.vec)
structure Bu (h:H) (A:Nat) (C:Nat→AV) (ls:Nat→List Int):Prop where
 get:h.get A=some (mY 8 C)
 fl:h.floor≤A
 nx:h.floor≤h.next
 own:∀n,n<8→vr 1 h (C n) (ls n).length (ints (ls n))
 Ie:∀n m,n<8→m<8→n≠m→∀i,(C n).id?=some i→(C m).id?≠some i
 gt:∀n,n<8→∀i,(C n).id?=some i→A<i
theorem Bu.mono {h g:H} {A:Nat} {C:Nat→AV} {ls:Nat→List Int} (b:Bu h A C ls) (hf:g.floor=h.floor) (hn:h.next≤g.next) (hg:∀i,i<h.next→g.get i=h.get i):Bu g A C ls:=
 ⟨by rw[hg A (h.lt _ _ b.get)];exact b.get,by rw[hf];exact b.fl,by rw[hf];exact uL b.nx hn,fun n hn'=>(b.own n hn').mono hf fun i q=>hg i ((b.own n hn').lt q).2,b.Ie,b.gt⟩
theorem Bu.push {h : H} {A : Nat} {C : Nat → AV} {ls : Nat → List Int} (b : Bu h A C ls) {n : Nat} (hn : n < 8) (hl : (ls n).length < 1000000) (x : Int) :
 ∃ v' h', kz (h.alloc [.int .i64 x]) 1 8 (C n) (.aD h.next 0 1 1) = some (v', h') ∧ v'.sc = true ∧ h'.get A = some (mY 8 C) ∧ h'.floor = h.floor ∧ h.next ≤ h'.next ∧
   Bu (h'.set A (mY 8 (tF C n v'))) A (tF C n v') (fun m=>if m=n then ls n++[x]else ls m)∧∀i,i<A→h'.get i=h.get i:=by
 have o:=b.own n hn
 obtain⟨v',h',p1,p2,p3,p4,p5,p6⟩:=o.push b.nx (z:=8) (m:=1) (by omega) (by omega) [.int .i64 x] rfl rfl (by simp [roomy];omega)
 have hA:=h.lt _ _ b.get
 have nA:(C n).id?≠some A:=fun q=>by have:=b.gt n hn A q;omega
 have gA:h'.get A=some (mY 8 C):=by rw[p5 A nA hA];exact b.get
 refine⟨v',h',p1,p2.sc,gA,p3,by omega,⟨by rw[uZ rfl,gA];rfl,by simp [p3,b.fl],by simp [p3];have:=b.nx;omega,fun m hm=> ?_,fun m k hm hk hmk i q=> ?_,fun m hm i q=> ?_⟩,fun i hi=>p5 i (fun q=>by have:=b.gt n hn i q;omega) (by omega)⟩
 · by_cases c:m=n
   · subst c
     have e:ints (ls m)++[.int .i64 x]=ints (ls m++[x]):=by simp [ints,I]
     rw[e]at p2
     simp only[tF,if_true,uN,List.length_singleton]
     exact p2.mono (by simp) fun i q=>by rw[uU];rw[p6]at q;have:=ue q;omega
   · simp only[tF,if_neg c]
     refine(b.own m hm).mono (by simp [p3]) fun i q=> ?_
     have h1:=((b.own m hm).lt q).2
     have h2:=b.gt m hm i q
     rw[uU (by omega),p5 i (fun q2=>b.Ie m n hm hn c i q q2) h1]
 · unfold tF at q ⊢
   by_cases c1:m=n
   · rw[if_pos c1,p6]at q
     have e:=ue q
     rw[if_neg (by omega)]
     intro q2
     have:=((b.own k hk).lt q2).2
     omega
   · rw[if_neg c1]at q
     by_cases c2:k=n
     · rw[if_pos c2,p6]
       intro q2
       have e:=ue q2
       have:=((b.own m hm).lt q).2
       omega
     · rw[if_neg c2]
       exact b.Ie m k hm hk hmk i q
 · unfold tF at q
   by_cases c:m=n
   · rw[if_pos c,p6]at q
     have e:=ue q
     omega
   · rw[if_neg c]at q
     exact b.gt m hm i q
theorem Bu.new {h:H} (hf:h.floor≤h.next):Bu (h.alloc (mY 8 fun _=>.aO)) h.next (fun _=>.aO) (fun _=>[]):=
 ⟨uW rfl,by simpa using hf,by simp;omega,fun n _=>vr.nil,fun n m _ _ _ i q=>(by cases q),fun n _ i q=>(by cases q)⟩
theorem wv.zk {n:Nat} {h g:H} {v:AV} {k:Nat} {cs:List AV} (r:wv n h v k cs) (hg:∀i,v.id?=some i→g.get i=h.get i):wv n g v k cs:=by
 obtain⟨r,hl,hs⟩:=r
 refine⟨?_,hl,hs⟩
 unfold aR at r ⊢
 split at r
 · exact r
 · exact r
 · rename_i id off len s
   split at r
   · rename_i q
     rw[if_pos q,hg id rfl];exact r
   · cases r
 · exact r
 · cases r
theorem Rd.zk {h g:H} {v:AV} {cs:List AV} (r:Rd h v cs) (hg:∀i,v.id?=some i→g.get i=h.get i):Rd g v cs:=by
 have:=r.DZ.zk hg
 exact⟨this.1,this.2.2⟩
theorem wM.zk {h g:H} {x:vh} (o:wM h x) (hg:∀i,x.2.id?=some i→g.get i=h.get i):wM g x:=⟨o.vec.zk hg,o.vl,o.nl,o.pl⟩
theorem Al (l:List vh) (x:vh):u9 (l++[x])=u9 l++uY x.1 x.2:=by simp [u9,Ko]
theorem wv.EZ {h:H} {v:AV} {l:List vh} (rd:wv 9 h v l.length (u9 l)):∃ad:Int→Nat→AV,(∀i:Int,0≤i∧i<l.length→fM 9 v (.int .i64 i)=some (ad i 0))∧
 (∀g,Ext h g→∀(i:Nat) (x:vh),l[i]?=some x→PE g (ad i 0) (uY x.1 x.2)∧bS true 9 (ad i 0) g=some (.agg (uY x.1 x.2))):=by
 obtain⟨ad,a1,a2,a4,a3⟩:=rd.at_
 refine⟨ad,a1,fun g hg i x hx=> ?_⟩
 have hi:i<l.length:=(uk.1 hx).1
 have hI:(0:Int)≤(i:Int)∧(i:Int)<l.length:=⟨by omega,by omega⟩
 refine⟨⟨fun g'=>a4 _ 0 g' hI,fun k=>ad i (0+k),fun k=>a2 _ 0 k hI,fun g' hg' k c hc=> ?_⟩, ?_⟩
 · have hk:k<9:=(uk.1 hc).1
   refine(a3 g' (fun id c q=>hg' id c (hg id c q))).1 _ _ _ hI ?_
   rw[wD,uy,show u9 l=l.flatMap Ko from rfl,yg y6 hx hk];exact hc
 · rw[(a3 g hg).2 _ hI,wD,show u9 l=l.flatMap Ko from rfl,BK y6 hx];rfl
theorem Em {v:AV} {l:List vh} (h:H) (b:Nat) (hb:h.get b=some [v]) (rd:wv 9 h v l.length (u9 l)) (hm:wW (l.map (·.1))=true):∀(q p:List vh),l=p++q→
 ∃e',Lp AP.A [0,3,10,11] AP.f192L0 [(0,.aC b 0),(3,.int .i64 (22+Bx (p.map (·.1)):Nat)),(10,.int .i64 l.length),(11,.int .i64 p.length)] h=some (.exit 0,e',h)∧look e' 3=.int .i64 (xx (l.map (·.1)):Nat)
 | [], p, hp => by
   rw[Qv]at hp;subst hp
   refine⟨[(0,.aC b 0),(3,.int .i64 (22+Bx (l.map (·.1)):Nat)),(10,.int .i64 l.length),(11,.int .i64 l.length),(12,.bool false)],sN ?_,rfl⟩
   simp (disch:=omega)only[go_sem,uX,AP.f192L0]
 | x :: q, p, hp => by
   obtain⟨m1,m2,m3⟩:=vC hm
   have hx:l[p.length]?=some x:=by rw[hp];simp
   have hlen:l.length=p.length+(q.length+1):=by rw[hp];simp
   rw[Qr]at m1
   obtain⟨_,_,c3⟩:=m2 x.1 (by rw[hp];simp)
   have c1:=wB (m2 x.1 (by rw[hp];simp)).1
   have c2:=yQ c3
   obtain⟨ad,a1,a2⟩:=rd.EZ
   have b1:=a1 p.length ⟨by omega,by omega⟩
   obtain⟨pe,_⟩:=a2 h (Ext.refl h) p.length x hx
   have nl:=pe.nil
   obtain⟨qq,f1,f2⟩:=pe.sV
   have l0:=f2 h (Ext.refl h) 0 _ rfl
   have l6:=f2 h (Ext.refl h) 6 _ rfl
   obtain⟨e',r1,r2⟩:=Em h b hb rd hm q (p++[x]) (by rw[hp];simp)
   have sz:xx (l.map (·.1))=22+(Bx (p.map (·.1))+(MN x.1+Bx (q.map (·.1)))):=by unfold xx;rw[hp,QG,Ed,Qz,Bx]
   have e1:22+Bx ((p++[x]).map (·.1))=22+Bx (p.map (·.1))+MN x.1:=by rw[QG,Ed];simp [Bx];omega
   have n1:((p++[x]).length:Int)=(p.length:Int)+1:=by simp
   rw[e1,n1]at r1
   have se:MN x.1=128+2* x.1.name.size+x.1.packed.size:=rfl
   obtain⟨N,hN⟩:∃N,N=22+Bx (p.map (·.1)):=⟨_,rfl⟩
   rw[←hN]at r1 ⊢
   have hN2:N≤4096:=by omega
   have w:(N:Int)+(76+2* ((x.1.name.size:Int)+26)+(x.1.packed.size:Int))=((N+MN x.1:Nat):Int):=by omega
   refine⟨e',sP ?_ r1,r2⟩
   clear r1 r2 e1 sz hN rd a1 a2 f2 pe m2 m3 hm hp n1
   simp (disch:=omega)only[go_sem,uX,AP.f192L0,hb,b1,nl,f1,l0,l6,w]
theorem H4 {v:AV} {l:List vh} (h:H) (b:Nat) (hb:h.get b=some [v]) (rd:wv 9 h v l.length (u9 l)) (hm:wW (l.map (·.1))=true):aQ AP.A 192 [.aC b 0] h=some (.int .i64 (xx (l.map (·.1)):Nat),h):=by
 obtain⟨e',r1,r2⟩:=Em h b hb rd hm l [] rfl
 have ln:=rd.len
 have r1':Lp AP.A [0,3,10,11] AP.f192L0 [(0,.aC b 0),(3,.int .i64 22),(10,.int .i64 l.length),(11,.int .i64 0)] h=some (.exit 0,e',h):=r1
 clear rd r1 hm
 generalize xx (l.map (·.1))=N at *
 refine ta (fn:=AP.f192) (h2:=h) (e:=[(2,.int .i64 N)]) (vs:=[.int .i64 N]) rfl rfl rfl ?_ rfl
 simp (disch:=omega)only[go_sem,uX,AP.f192,hb,ln,rH,r1',r2]
theorem wo (v:AV):gY true 1 [v] 0=some (.agg [v]):=rfl
theorem H0 (h:H) (v:AV) (l:List vh) (hvs:v.sc=true) (hn:l.length<1125899906842624) (rd:wv 9 h v l.length (u9 l)) (hv:∀x∈l,wM h x):aQ AP.A 190 [.agg [v]] h=some (.int .i64 (if wW (l.map (·.1))=true then(xx (l.map (·.1)):Nat)else(0:Nat):Nat),h):=by
 obtain⟨h1,eh1⟩:∃g,g=h.dU.alloc [v]:=⟨_,rfl⟩
 have hx0:Ext h h1:=by rw[eh1];exact fun i c q=>((Ext.refl h.dU).alloc _) i c q
 have hn0:h.dU.next=h.next:=rfl
 have g1:h1.get h.next=some [v]:=by rw[eh1];exact uW rfl
 have rd1:=rd.mono fun i c q=>hx0 i c q
 have k1:=GX h1 v l hvs hn rd1 (fun x hx=>(hv x hx).mono hx0)
 cases hm:wW (l.map (·.1))with
 | false =>
   rw[hm]at k1
   refine tB (fn:=AP.f190) (h2:=h1) (e:=[(2,.int .i64 0)]) (vs:=[.int .i64 0]) rfl rfl rfl ?_ rfl rfl
   clear rd rd1 hv hx0
   simp (disch:=omega)only[go_sem,uX,AP.f190,hvs,hn0,←eh1,g1,wo,k1]
 | true =>
   rw[hm]at k1
   have k2:=H4 h1 h.next g1 rd1 hm
   refine tB (fn:=AP.f190) (h2:=h1) (e:=[(2,.int .i64 (xx (l.map (·.1)):Nat))]) (vs:=[.int .i64 (xx (l.map (·.1)):Nat)]) rfl rfl rfl ?_ rfl rfl
   clear rd rd1 hv hx0
   simp (disch:=omega)only[go_sem,uX,AP.f190,hvs,hn0,←eh1,g1,wo,k1,k2]
theorem L2 (h:H) (v:AV) (l:List vh) (hvs:v.sc=true) (hn:l.length<1125899906842624) (rd:wv 9 h v l.length (u9 l)) (hv:∀x∈l,wM h x):aQ AP.A 186 [.agg [v]] h=some (.bool (wW (l.map (·.1))),h):=by
 obtain⟨h1,eh1⟩:∃g,g=h.dU.alloc [v]:=⟨_,rfl⟩
 have hx0:Ext h h1:=by rw[eh1];exact fun i c q=>((Ext.refl h.dU).alloc _) i c q
 have hn0:h.dU.next=h.next:=rfl
 have g1:h1.get h.next=some [v]:=by rw[eh1];exact uW rfl
 have rd1:=rd.mono fun i c q=>hx0 i c q
 have k1:=H0 h1 v l hvs hn rd1 (fun x hx=>(hv x hx).mono hx0)
 cases hm:wW (l.map (·.1))with
 | false =>
   rw[hm]at k1
   have k1':aQ AP.A 190 [.agg [v]] h1=some (.int .i64 0,h1):=k1
   refine tB (fn:=AP.f186) (h2:=h1) (e:=[(2,.bool false)]) (vs:=[.bool false]) rfl rfl rfl ?_ rfl rfl
   clear rd rd1 hv hx0
   simp (disch:=omega)only[go_sem,uX,AP.f186,hvs,hn0,←eh1,g1,wo,k1']
 | true =>
   rw[hm]at k1
   have k1':aQ AP.A 190 [.agg [v]] h1=some (.int .i64 (xx (l.map (·.1)):Nat),h1):=k1
   have m3:=(vC hm).2.2
   have m4:22≤xx (l.map (·.1)):=by unfold xx;omega
   generalize xx (l.map (·.1))=N at *
   refine tB (fn:=AP.f186) (h2:=h1) (e:=[(2,.bool true)]) (vs:=[.bool true]) rfl rfl rfl ?_ rfl rfl
   clear rd rd1 hv hx0 k1 hm
   simp (disch:=omega)only[go_sem,uX,AP.f186,hvs,hn0,←eh1,g1,wo,k1']
theorem Kt (h:H) (hf:h.floor≤h.next) (e:vv) (v:AV) (hv:v.sc=true) (ok:wM h (e,v)):aQ AP.A 188 [.agg (uY e v)] h=some (.bool (!vV e),h):=by
 obtain⟨h1,eh1⟩:∃g,g=h.dU.alloc (uY e v):=⟨_,rfl⟩
 have hx1:Ext h h1:=fun i c q=>by rw[eh1];exact((Ext.refl h.dU).alloc _) i c q
 have hn0:h.dU.next=h.next:=rfl
 have g0:h1.get h.next=some (uY e v):=by rw[eh1,uW (by simp)]
 have k1:=Dw h1 (by rw[eh1];simp) e v hv (ok.mono hx1)
 have rdA:gY true 9 (uY e v) 0=some (.agg (uY e v)):=rfl
 refine tB (fn:=AP.f188) (h2:=h1) (e:=[(2,.bool (!vV e))]) rfl rfl rfl ?_ rfl rfl
 clear hx1
 simp only[uY]at *
 simp (disch:=omega)only[go_sem,uX,AP.f188,hv,hn0,←eh1,g0,rdA,k1]
theorem DT {v : AV} {l : List vh} (hl : l.length < 1000) (h : H) (hf : h.floor ≤ h.next) (rd : wv 9 h v l.length (u9 l)) (hv : ∀ x ∈ l, wM h x ∧ x.2.sc = true) : ∀ (q p : List vh), l = p ++ q →
 (∃e',Lp AP.A [0,1,7,8] AP.f191L0 [(0,v),(1,.fn 188 [] []),(7,.int .i64 l.length),(8,.int .i64 p.length)] h=some (.exit 0,e',h)∧(q.map (·.1)).all vV=true)∨
 (∃e',Lp AP.A [0,1,7,8] AP.f191L0 [(0,v),(1,.fn 188 [] []),(7,.int .i64 l.length),(8,.int .i64 p.length)] h=some (.ret,e',h)∧(∃k:Nat,look e' 4=.int .i64 k)∧(q.map (·.1)).all vV=false)
 | [], p, hp => by
   rw[Qv]at hp;subst hp
   refine .inl ⟨[(0,v),(1,.fn 188 [] []),(7,.int .i64 l.length),(8,.int .i64 l.length),(9,.bool false)],sN ?_,rfl⟩
   simp (disch:=omega)only[go_sem,uX,AP.f191L0]
 | x :: q, p, hp => by
   have hx:l[p.length]?=some x:=by rw[hp];simp
   have hlen:l.length=p.length+(q.length+1):=by rw[hp];simp
   obtain⟨ad,a1,a2⟩:=rd.EZ
   have b1:=a1 p.length ⟨by omega,by omega⟩
   obtain⟨_,b2⟩:=a2 h (Ext.refl h) p.length x hx
   obtain⟨ok,sc⟩:=hv x (by rw[hp];simp)
   have k1:=Kt h hf x.1 x.2 sc ok
   have n1:((p++[x]).length:Int)=(p.length:Int)+1:=by simp
   have ih:=DT hl h hf rd hv q (p++[x]) (by rw[hp];simp)
   rw[n1]at ih
   rw[Qz,List.all_cons]
   cases hm:vV x.1 with
   | false =>
     rw[hm]at k1
     refine .inr ⟨[(4,.int .i64 p.length)],tk ?_,⟨p.length,rfl⟩,rfl⟩
     clear ih rd a1 a2 hv hp
     generalize uY x.1 x.2=E at *
     simp (disch:=omega)only[go_sem,uX,AP.f191L0,b1,b2,k1]
   | true =>
     rw[hm]at k1
     rw[QB]
     have step:aK (aQ AP.A) bA AP.f191L0 (ax [(0,v),(1,.fn 188 [] []),(7,.int .i64 l.length),(8,.int .i64 p.length)] [0,1,7,8]) h=some (.normal,[(0,v),(1,.fn 188 [] []),(7,.int .i64 l.length),(8,.int .i64 ((p.length:Int)+1))],h):=by
      clear ih rd a1 a2 hv hp
      generalize uY x.1 x.2=E at *
      simp (disch:=omega)only[go_sem,uX,AP.f191L0,b1,b2,k1]
     rcases ih with ⟨e',r1,r2⟩|⟨e',r1,r2,r3⟩
     · exact .inl ⟨e',sP step r1,r2⟩
     · exact .inr ⟨e',sP step r1,r2,r3⟩
theorem IU (h:H) (hf:h.floor≤h.next) (v:AV) (l:List vh) (hl:l.length<1000) (rd:wv 9 h v l.length (u9 l)) (hv:∀x∈l,wM h x∧x.2.sc=true):aQ AP.A 187 [v,.fn 188 [] []] h=some (.bool (!(l.map (·.1)).all vV),h):=by
 have xf:Ext h h.dU:=fun i c q=>q
 have k1:∃k:Int,aQ AP.A 191 [v,.fn 188 [] []] h.dU=some (.int .i64 k,h.dU)∧(k<0↔(l.map (·.1)).all vV=true):=by
  have ln:=rd.len
  rcases DT hl h.dU.dU (by simp) (rd.mono fun i c q=>xf i c q) (fun x hx=>⟨(hv x hx).1.mono xf,(hv x hx).2⟩) l [] rfl with ⟨e',r1,r2⟩|⟨e',r1,⟨k,r2⟩,r3⟩
  · have r1':Lp AP.A [0,1,7,8] AP.f191L0 [(0,v),(1,.fn 188 [] []),(7,.int .i64 l.length),(8,.int .i64 0)] h.dU.dU=some (.exit 0,e',h.dU.dU):=r1
    refine⟨-1,tB (fn:=AP.f191) (h2:=h.dU.dU) (e:=[(4,.int .i64 (-1))]) rfl rfl rfl ?_ rfl rfl,by rw[r2];simp⟩
    clear rd hv r1 r2
    simp (disch:=omega)only[go_sem,uX,AP.f191,ln,rH,r1']
  · have r1':Lp AP.A [0,1,7,8] AP.f191L0 [(0,v),(1,.fn 188 [] []),(7,.int .i64 l.length),(8,.int .i64 0)] h.dU.dU=some (.ret,e',h.dU.dU):=r1
    refine⟨k,tB (fn:=AP.f191) (h2:=h.dU.dU) (e:=e') (vs:=[.int .i64 k]) rfl rfl rfl ?_ (by simp only[AP.f191,cJ,mP,r2];rfl) rfl,by rw[r3];simp⟩
    clear rd hv r1 r2 r3
    simp (disch:=omega)only[go_sem,uX,AP.f191,ln,rH,r1']
 obtain⟨k,k1,k2⟩:=k1
 refine tB (fn:=AP.f187) (h2:=h.dU) (e:=[(4,.bool (!(l.map (·.1)).all vV))]) rfl rfl rfl ?_ rfl rfl
 cases ha:(l.map (·.1)).all vV with
 | true =>
   have:¬0≤k:=by have:=k2.2 ha;omega
   clear rd hv k2
   simp (disch:=omega)only[go_sem,uX,AP.f187,k1]
 | false =>
   have:0≤k:=by
    rw[ha]at k2
    have:¬k<0:=fun q=>by cases k2.1 q
    omega
   clear rd hv k2
   simp (disch:=omega)only[go_sem,uX,AP.f187,k1]
theorem FH (h:H) (v:AV) (l:List vh) (hvs:v.sc=true) (hn:l.length<1125899906842624) (rd:wv 9 h v l.length (u9 l)) (hv:∀x∈l,wM h x∧x.2.sc=true):aQ AP.A 183 [.agg [v]] h=some (.bool (vQ (l.map (·.1))),h):=by
 obtain⟨h1,eh1⟩:∃g,g=h.dU.alloc [v]:=⟨_,rfl⟩
 have hx0:Ext h h1:=by rw[eh1];exact fun i c q=>((Ext.refl h.dU).alloc _) i c q
 have hn0:h.dU.next=h.next:=rfl
 have g1:h1.get h.next=some [v]:=by rw[eh1];exact uW rfl
 have rd1:=rd.mono fun i c q=>hx0 i c q
 have k1:=L2 h1 v l hvs hn rd1 (fun x hx=>(hv x hx).1.mono hx0)
 refine tB (fn:=AP.f183) (h2:=h1) (e:=[(2,.bool (vQ (l.map (·.1))))]) rfl rfl rfl ?_ rfl rfl
 unfold vQ
 cases hm:wW (l.map (·.1))with
 | false =>
   rw[hm]at k1
   clear rd rd1 hv hx0
   simp (disch:=omega)only[go_sem,uX,AP.f183,hvs,hn0,←eh1,g1,wo,k1]
 | true =>
   rw[hm]at k1
   have m1:=(vC hm).1
   rw[Qr]at m1
   have k2:=IU h1 (by rw[eh1];simp) v l (by omega) rd1 (fun x hx=>⟨(hv x hx).1.mono hx0,(hv x hx).2⟩)
   clear rd rd1 hv hx0
   generalize (l.map (·.1)).all vV=B at *
   cases B<;>simp (disch:=omega)only[go_sem,uX,AP.f183,hvs,hn0,←eh1,g1,wo,k1,k2]
structure MP (n:Nat) (h:H) (w:AV) (h':H) (k:Nat) (cs:List AV):Prop where
 own:vr n h' w k cs
 ext:Ext h h'
 fl:h'.floor=h.floor
 nx:h.next≤h'.next
 ge:∀i,w.id?=some i→h.next≤i
theorem Cy (h:H) (s:ByteArray) (hs:s.size<1125899906842624):aQ AP.A 179 [.str s] h=some (.int .i64 ((wq s%8:Nat):Int),h):=by
 have k1:=CT h.dU s hs
 have rm:bp .rem (.int .i64 (wq s:Int)) (.int .i64 8)=some (.int .i64 ((wq s%8:Nat):Int)):=by
  show(if(8:Int)=0 then none else some (AV.int .i64 ((wq s:Int).tmod 8)))=_
  rw[if_neg (by decide),Int.tmod_eq_emod_of_nonneg (by omega)];rfl
 generalize ((wq s%8:Nat):Int)=M at *
 refine tB (fn:=AP.f179) (h2:=h.dU) (e:=[(2,.int .i64 M)]) rfl rfl rfl ?_ rfl rfl
 simp (disch:=omega)only[go_sem,uX,AP.f179,k1,rm]
theorem wK {v:AV} (h:v.sc=true):v.cells=[v]:=by cases v<;>first|rfl|cases h
theorem DI {v:AV} {l:List vh} (h0:H) (rd:wv 9 h0 v l.length (u9 l)) (hv:∀x∈l,wM h0 x∧x.2.sc=true) (hm:vQ (l.map (·.1))=true) (A:Nat) (hA:h0.next≤A):∀(q p:List vh),l=p++q→∀(h:H) (C:Nat→AV),Ext h0 h→h0.next≤h.next→Bu h A C (yF (p.map (·.1)))→
 ∃e' h' C',Lp AP.A [4,19,20,21] AP.f177L1 [(4,.aC A 0),(19,v),(20,.int .i64 l.length),(21,.int .i64 p.length)] h=some (.exit 0,e',h')∧look e' 4=.aC A 0∧Bu h' A C' (yF (l.map (·.1)))∧Ext h0 h'∧h'.floor=h.floor∧h.next≤h'.next
 | [], p, hp, h, C, hx, hn, bu => by
   rw[Qv]at hp;subst hp
   refine⟨[(4,.aC A 0),(19,v),(20,.int .i64 l.length),(21,.int .i64 l.length),(22,.bool false)],h,C,sN ?_,rfl,bu,hx,rfl,ur _⟩
   simp (disch:=omega)only[go_sem,uX,AP.f177L1]
 | x :: q, p, hp, h, C, hx, hn, bu => by
   unfold vQ at hm
   have hm':=hm
   rw[uu]at hm
   obtain⟨m1,m2,m3⟩:=vC hm.1
   rw[Qr]at m1
   have hl:l[p.length]?=some x:=by rw[hp];simp
   have hlen:l.length=p.length+(q.length+1):=by rw[hp];simp
   have may:vV x.1=true:=QE.1 hm.2 x.1 (by rw[hp];simp)
   have nsz:=wB (m2 x.1 (by rw[hp];simp)).1
   obtain⟨ad,a1,a2⟩:=rd.EZ
   have b1:=a1 p.length ⟨by omega,by omega⟩
   obtain⟨_,b2⟩:=a2 h hx p.length x hl
   obtain⟨ok,sc⟩:=hv x (by rw[hp];simp)
   obtain⟨E,hE⟩:∃E,E=uY x.1 x.2:=⟨_,rfl⟩
   have lE:E.length=9:=by rw[hE];rfl
   have cE:AV.aB E=true:=by rw[hE];exact wY sc
   have rE:gY true 9 E 0=some (.agg E):=by rw[hE];rfl
   have E0:E[0]?=some (.str x.1.name):=by rw[hE];rfl
   obtain⟨g0,eg0⟩:∃g,g=h.alloc Z9:=⟨_,rfl⟩
   obtain⟨g1,eg1⟩:∃g,g=g0.set h.next E:=⟨_,rfl⟩
   have z0:g0.get h.next=some Z9:=by rw[eg0,uW rfl]
   have st:tD g0 h.next 0 9 E (some Z9)=some g1:=by rw[eg1];exact vE (by rw[eg0];simp;exact bu.nx) lE rfl cE
   have z1:g1.get h.next=some E:=by rw[eg1,uZ rfl,z0];rfl
   have low:∀i,i<h.next→g1.get i=h.get i:=fun i hi=>by rw[eg1,uU (by omega),eg0,u6 (by omega)]
   have f1:g1.floor=h.floor:=by rw[eg1,eg0];simp
   have n1:g1.next=h.next+1:=by rw[eg1,eg0];simp
   have x1:Ext h0 g1:=fun i c q=>by rw[low i (by have:=h0.lt _ _ q;omega)];exact hx i c q
   have bu1:=bu.mono f1 (by omega) low
   have k1:=Fx g1 (by have:=bu.nx;omega) x.1 x.2 sc (ok.mono x1)
   unfold Kk at k1
   rw[if_pos may,←hE]at k1
   have k1':aQ AP.A 91 [.agg E] g1=some (.bO [.int .i64 (Kj x.1),.int .i64 0],g1):=k1
   have k2:=Cy g1 x.1.name (by omega)
   obtain⟨b,hb⟩:∃b,b=wq x.1.name%8:=⟨_,rfl⟩
   have hb8:b<8:=by omega
   rw[←hb]at k2
   obtain⟨v',h',p1,p2,p3,p4,p5,p6,p7⟩:=bu1.push hb8 (by have:=Cx (p.map (·.1)) b;rw[Qr]at this;omega) (Kj x.1)
   have gC:(mY 8 C)[b]?=some (C b):=fK hb8
   have hc:=wK p2
   have gA1:=bu1.get
   have st2:tD h' A b 1 [v'] (some (mY 8 C))=some (h'.set A (mY 8 (tF C b v'))):=by
    rw[tV (by rw[p4];exact bu1.fl) (by simp [hb8]) p2,te hb8]
   have eb:(fun m=>if m=b then yF (p.map (·.1)) b++[Kj x.1]else yF (p.map (·.1)) m)=yF ((p++[x]).map (·.1)):=by
    funext m
    rw[QG,List.map_singleton,Ey]
    have:EY x.1=b:=hb.symm
    rw[this]
    by_cases c:m=b
    · subst c;simp
    · rw[if_neg c,if_neg (by omega)]
   rw[eb]at p6
   obtain⟨e',h2,C2,r1,r2,r3,r4,r5,r6⟩:=DI h0 rd hv hm' A hA q (p++[x]) (by rw[hp];simp) (h'.set A (mY 8 (tF C b v'))) _ (fun i c q=>by have:=h0.lt _ _ q;rw[uU (by omega),p7 i (by omega)];exact x1 i c q) (by simp;omega) p6
   have w1:((p++[x]).length:Int)=(p.length:Int)+1:=by simp
   rw[w1]at r1
   refine⟨e',h2,C2,sP ?_ r1,r2,r3,r4,by rw[r5];simp [p4,f1],by simp at r6;omega⟩
   rw[←hE]at b2
   have a0:h.alloc [.str ⟨#[]⟩,.bool false,.aO,.int .i64 0,.int .i64 0,.int .i64 0,.str ⟨#[]⟩,.int .i64 0,.int .i64 0]=g0:=eg0.symm
   have pI:(0:Int)≤(b:Int)∧(b:Int)<8:=⟨by omega,by omega⟩
   clear r1 r2 r3 r4 r5 r6 p6 eb hE hv rd a1 a2 x1 low bu bu1 k1 hx hm hm' m2 hb may hp eg0 eg1
   generalize Kj x.1=D at *
   generalize mY 8 (tF C b v')=T2 at *
   generalize mY 8 C=T1 at *
   simp (disch:=omega)only[go_sem,uX,AP.f177L1,b1,b2,a0,z0,lE,cE,st,z1,rE,E0,k1',k2,gA1,gC,p1,hc,p3,st2]
theorem DD {f:Nat→Int} (i:Nat):(List.range (i+1)).map f=(List.range i).map f++[f i]:=by rw[List.range_succ,QG];rfl
theorem Cv (h0 : H) (C : Nat → AV) (ls : Nat → List Int) (hb : ∀ m, m < 8 → (ls m).all yU = true ∧ (ls m).length < 1000000) : ∀ (n i : Nat), i + n = 8 → ∀ (h : H) (ov : AV), (∀ m, m < 8 → Rd h (C m) (ints (ls m))) → vr 1 h ov i (ints ((List.range i).map fun b => vK (ls b))) → h.floor ≤ h.next →
 (∀m,m<8→∀j,(C m).id?=some j→ov.id?≠some j∧j<h.next)→Ext h0 h→h0.next≤h.next→(∀j,ov.id?=some j→h0.next≤j)→
 ∃e' h' ov',Lp AP.A [10,42,43] AP.f177L0 [(10,ov),(42,.agg (mY 8 C)),(43,.int .i64 i)] h=some (.exit 2,e',h')∧look e' 10=ov'∧vr 1 h' ov' 8 (ints ((List.range 8).map fun b=>vK (ls b)))∧Ext h0 h'∧h'.floor=h.floor∧h.next≤h'.next∧∀j,ov'.id?=some j→h0.next≤j
 | 0, i, hi, h, ov, gY, o, hf, sep, hx, hn, hge => by
   obtain rfl:i=8:=by omega
   refine⟨[(10,ov),(42,.agg (mY 8 C)),(43,.int .i64 8),(44,.bool false)],h,ov,sN ?_,rfl,o,hx,rfl,ur _,hge⟩
   generalize mY 8 C=T at *
   simp (disch:=omega)only[go_sem,uX,AP.f177L0]
 | n + 1, i, hi, h, ov, gY, o, hf, sep, hx, hn, hge => by
   obtain⟨ha,hl⟩:=hb i (by omega)
   have k1:=FZ h (C i) (ls i) (gY i (by omega)) (by omega)
   rw[FW ha]at k1
   have k1':aQ AP.A 93 [C i] h=some (.bO [.int .i64 (vK (ls i)),.int .i64 0],h):=k1
   obtain⟨v',h',p1,p2,p3,p4,p5,p6⟩:=o.push hf (z:=8) (m:=1) (by omega) (by omega) [.int .i64 (vK (ls i))] rfl rfl (by simp [roomy];omega)
   have e:ints ((List.range i).map fun b=>vK (ls b))++[.int .i64 (vK (ls i))]=ints ((List.range (i+1)).map fun b=>vK (ls b)):=by rw[DD];simp [ints,I]
   rw[e]at p2
   have vI:∀j,j<h.next→ov.id?≠some j→h'.get j=h.get j:=fun j a b=>p5 j b a
   have gC:lR false 8 1 (.agg (mY 8 C)) (.int .i64 i)=some (C i):=by
    show(da (.int .i64 (i:Int)) 8).bind _=_
    rw[MK ⟨by omega,by omega⟩,um,wD,QM]
    exact fK (by omega)
   obtain⟨e',h2,ov',r1,r2⟩:=Cv h0 C ls hb n (i+1) (by omega) h' v' (fun m hm=>(gY m hm).zk fun j q=>vI j (sep m hm j q).2 (sep m hm j q).1) p2 (by rw[p3];omega) (fun m hm j q=>by
    have:=(sep m hm j q).2
    rw[p6]
    exact⟨fun q2=>by have:=ue q2;omega,by omega⟩) (fun j c q=>by
     have:=h0.lt _ _ q
     rw[vI j (by omega) (fun q2=>by have:=hge j q2;omega)];exact hx j c q) (by omega) (fun j q=>by rw[p6]at q;have:=ue q;omega)
   have w1:((i+1:Nat):Int)=(i:Int)+1:=by omega
   rw[w1]at r1
   refine⟨e',h2,ov',sP ?_ r1,r2.1,r2.2.1,r2.2.2.1,by rw[r2.2.2.2.1,p3],by have:=r2.2.2.2.2.1;omega,r2.2.2.2.2.2⟩
   have scC:(C i).sc=true:=by
    have:=gY i (by omega)
    cases hc:C i with
    |bot=>rw[hc]at this;cases this.1
    |agg _=>rw[hc]at this;cases this.1
    |bO _=>rw[hc]at this;cases this.1
    |_=>rfl
   clear r1 r2 vI gY o sep hx p2 e hb
   generalize vK (ls i)=D at *
   generalize mY 8 C=T at *
   generalize C i=Ci at *
   simp (disch:=omega)only[go_sem,uX,AP.f177L0,gC,k1',p1,uo,uO]
theorem Fy (l:List vv):vw l=(List.range 8).map fun b=>vK (yF l b):=rfl
theorem Dv (h : H) (hf : h.floor ≤ h.next) (v : AV) (l : List vh) (hvs : v.sc = true) (hn : l.length < 1125899906842624) (rd : wv 9 h v l.length (u9 l)) (hv : ∀ x ∈ l, wM h x ∧ x.2.sc = true) :
 ∃w h',aQ AP.A 177 [.agg [v]] h=some (.bO [w,.int .i64 (if vQ (l.map (·.1))then 0 else 1600)],h')∧MP 1 h w h' (if vQ (l.map (·.1))then vw (l.map (·.1))else []).length (ints (if vQ (l.map (·.1))then vw (l.map (·.1))else [])):=by
 obtain⟨g1,eg1⟩:∃g,g=h.alloc [v]:=⟨_,rfl⟩
 have hx1:Ext h g1:=by rw[eg1];exact(Ext.refl h).alloc _
 have z1:g1.get h.next=some [v]:=by rw[eg1];exact uW rfl
 have f1:g1.floor=h.floor:=by rw[eg1];simp
 have n1:g1.next=h.next+1:=by rw[eg1];simp
 have rd1:=rd.mono fun i c q=>hx1 i c q
 have hv1:∀x∈l,wM g1 x∧x.2.sc=true:=fun x hx=>⟨(hv x hx).1.mono hx1,(hv x hx).2⟩
 have k1:=FH g1 v l hvs hn rd1 hv1
 have ln:=rd1.len
 cases hm:vQ (l.map (·.1))with
 | false =>
   rw[hm]at k1
   refine⟨.aO,g1, ?_,⟨vr.nil,hx1,f1,by omega,fun i q=>by cases q⟩⟩
   refine ta (fn:=AP.f177) (h2:=g1) (e:=[(2,.aO),(3,.int .i64 1600)]) (vs:=[.aO,.int .i64 1600]) rfl rfl rfl ?_ rfl
   clear rd rd1 hv hv1 hx1
   simp (disch:=omega)only[go_sem,uX,AP.f177,hvs,←eg1,z1,wo,k1]
 | true =>
   rw[hm]at k1
   have m1:=hm
   unfold vQ at m1
   rw[uu]at m1
   have m2:=(vC m1.1).1
   rw[Qr]at m2
   obtain⟨g2,eg2⟩:∃g,g=g1.alloc (mY 8 fun _=>.aO):=⟨_,rfl⟩
   have hx2:Ext g1 g2:=by rw[eg2];exact(Ext.refl g1).alloc _
   have z2:g2.get h.next=some [v]:=hx2 _ _ z1
   have bu:=Bu.new (h:=g1) (by omega)
   rw[←eg2]at bu
   obtain⟨e',g3,C,r1,r2,r3,r4,r5,r6⟩:=DI g1 rd1 hv1 hm g1.next (ur _) l [] rfl g2 (fun _=>.aO) hx2 (by rw[eg2];simp) bu
   have r1':Lp AP.A [4,19,20,21] AP.f177L1 [(4,.aC (h.next+1) 0),(19,v),(20,.int .i64 l.length),(21,.int .i64 0)] g2=some (.exit 0,e',g3):=by rw[←n1];exact r1
   rw[n1]at r2 r3
   have a2:g1.alloc [.aO,.aO,.aO,.aO,.aO,.aO,.aO,.aO]=g2:=eg2.symm
   have z3:=r3.get
   have rT:gY true 8 (mY 8 C) 0=some (.agg (mY 8 C)):=rfl
   have n2:g2.next=h.next+2:=by rw[eg2];simp [n1]
   have f2:g2.floor=h.floor:=by rw[eg2];simp [f1]
   obtain⟨e2,g4,ov,s1,s2,s3,s4,s5,s6,s7⟩:=Cv h C (yF (l.map (·.1))) (fun m _=>⟨Hi _ _,by have:=Cx (l.map (·.1)) m;rw[Qr]at this;omega⟩) 8 0 rfl g3 .aO (fun m hm=>by
    have o:=(r3.own m hm).rd
    exact⟨by have:=o.1;rw[o9];exact this,o.2.2⟩) vr.nil r3.nx (fun m hm j q=>⟨(fun q2=>by cases q2),((r3.own m hm).lt q).2⟩) (fun i c q=>r4 i c (hx1 i c q)) (by omega) (fun j q=>by cases q)
   have s1':Lp AP.A [10,42,43] AP.f177L0 [(10,.aO),(42,.agg (mY 8 C)),(43,.int .i64 0)] g3=some (.exit 2,e2,g4):=s1
   refine⟨ov,g4, ?_,⟨by rw[if_pos rfl,vm,Fy];exact s3,s4,by rw[s5,r5,f2],by omega,s7⟩⟩
   rw[if_pos rfl]
   refine ta (fn:=AP.f177) (h2:=g4) (e:=[(2,ov),(3,.int .i64 0)]) (vs:=[ov,.int .i64 0]) rfl rfl rfl ?_ rfl
   clear rd rd1 hv hv1 hx1 hx2 r1 s1 s3 s4 r3 bu eg2
   generalize mY 8 C=T at *
   simp (disch:=omega)only[go_sem,uX,AP.f177,hvs,←eg1,z1,n1,wo,k1,a2,z2,ln,rH,r1',r2,z3,rT,s1',s2]
def D6 (l:List Int):AV:=if l.all yU&&decide (l.length=8)then .bO [.int .i64 (vK l),.int .i64 0]else .bO [.int .i64 0,.int .i64 1600]
theorem Gt (h:H) (v:AV) (l:List Int) (rd:Rd h v (ints l)) (hl:l.length<1125899906842624):aQ AP.A 181 [v] h=some (D6 l,h):=by
 have xf:Ext h h.dU:=fun i c q=>q
 have k1:=FZ h.dU v l (rd.mono fun i c q=>xf i c q) hl
 have r2:=(rd.mono fun i c q=>xf i c q:Rd h.dU v (ints l)).DZ
 rw[o9]at r2
 have ln:=r2.len
 unfold D6
 unfold CQ at k1
 cases ha:l.all yU with
 | false =>
   rw[ha]at k1
   have k1':aQ AP.A 93 [v] h.dU=some (.bO [.int .i64 0,.int .i64 1500],h.dU):=k1
   refine tB (fn:=AP.f181) (h2:=h.dU) (e:=[(2,.int .i64 0),(3,.int .i64 1600)]) rfl rfl rfl ?_ rfl rfl
   clear rd r2 k1
   simp (disch:=omega)only[go_sem,uX,AP.f181,k1',ln]
 | true =>
   rw[ha]at k1
   have k1':aQ AP.A 93 [v] h.dU=some (.bO [.int .i64 (vK l),.int .i64 0],h.dU):=k1
   by_cases c:l.length=8
   · have c':(l.length:Int)=8:=by omega
     rw[dt c]
     refine tB (fn:=AP.f181) (h2:=h.dU) (e:=[(2,.int .i64 (vK l)),(3,.int .i64 0)]) rfl rfl rfl ?_ rfl rfl
     clear rd r2 k1
     generalize vK l=M at *
     simp (disch:=omega)only[go_sem,uX,AP.f181,k1',ln]
   · have c':¬(l.length:Int)=8:=by omega
     rw[df c]
     refine tB (fn:=AP.f181) (h2:=h.dU) (e:=[(2,.int .i64 0),(3,.int .i64 1600)]) rfl rfl rfl ?_ rfl rfl
     clear rd r2 k1
     generalize vK l=M at *
     simp (disch:=omega)only[go_sem,uX,AP.f181,k1',ln]
def MT (p:Option Int) (b:Int):Bool:=decide (0≤b)&&(decide (b<8)&&(match p with|none=>true|some q=>decide (q<b)))
theorem Hf (p:Option Int) (b:Int) (l:List Int):xF p (b::l)=(MT p b&&xF (some b) l):=by cases p<;>(rw[xF];rfl)
theorem DJ {v : AV} {l : List Int} (hl : l.length < 1125899906842624) (h : H) (rd : Rd h v (ints l)) : ∀ (q p : List Int), l = p ++ q →
 (∃e',Lp AP.A [0,5,6,7] AP.f184L0 [(0,v),(5,v),(6,.int .i64 l.length),(7,.int .i64 p.length)] h=some (.exit 0,e',h)∧xF p.getLast? q=true)∨
 (∃e',Lp AP.A [0,5,6,7] AP.f184L0 [(0,v),(5,v),(6,.int .i64 l.length),(7,.int .i64 p.length)] h=some (.ret,e',h)∧look e' 2=.bool false∧xF p.getLast? q=false)
 | [], p, hp => by
   rw[Qv]at hp;subst hp
   refine .inl ⟨[(0,v),(5,v),(6,.int .i64 l.length),(7,.int .i64 l.length),(8,.bool false)],sN ?_,rfl⟩
   simp (disch:=omega)only[go_sem,uX,AP.f184L0]
 | x :: q, p, hp => by
   have hlen:l.length=p.length+(q.length+1):=by rw[hp];simp
   have hx:l[p.length]?=some x:=by rw[hp];simp
   obtain⟨ad,a1,a2⟩:=rd.wJ
   have b1:=a1 p.length ⟨by omega,by omega⟩
   have b2:=a2 h (Ext.refl h) p.length x hx
   have ih:=DJ hl h rd q (p++[x]) (by rw[hp];simp)
   have w1:((p++[x]).length:Int)=(p.length:Int)+1:=by simp
   rw[w1,List.getLast?_concat]at ih
   rw[Hf]
   have step : aK (aQ AP.A) bA AP.f184L0 (ax [(0, v), (5, v), (6, .int .i64 l.length), (7, .int .i64 p.length)] [0, 5, 6, 7]) h = if MT p.getLast? x then some (.normal, [(0, v), (5, v), (6, .int .i64 l.length), (7, .int .i64 ((p.length : Int) + 1))], h) else some (.ret, [(2, .bool false)], h) := by
    unfold MT
    cases hq:p.getLast? with
    | none =>
      have hp0:p=[]:=List.getLast?_eq_none_iff.1 hq
      have hp1:p.length=0:=by rw[hp0];rfl
      clear ih rd a1 a2 hp w1
      by_cases c1:0≤x
      · by_cases c2:x<8
        · simp only[dt c1,dt c2,QF,if_true]
          simp (disch:=omega)only[go_sem,uX,AP.f184L0,b1,b2]
        · simp only[dt c1,df c2,Qu,Qx,uo,uO]
          simp (disch:=omega)only[go_sem,uX,AP.f184L0,b1,b2]
      · simp only[df c1,Qu,uo,uO]
        simp (disch:=omega)only[go_sem,uX,AP.f184L0,b1,b2]
    | some y =>
      obtain⟨p',rfl⟩:∃p',p=p'++[y]:=List.getLast?_eq_some_iff.1 hq
      have hpl:(p'++[y]).length=p'.length+1:=by simp
      have hy:l[p'.length]?=some y:=by rw[hp];simp
      have bj:=a1 p'.length ⟨by omega,by omega⟩
      have lj:=a2 h (Ext.refl h) p'.length y hy
      have n2:(((p'++[y]).length:Nat):Int)-1=(p'.length:Int):=by rw[hpl];omega
      have n3:0<(((p'++[y]).length:Nat):Int):=by rw[hpl];omega
      clear ih rd a1 a2 hp w1 hx hy hq
      generalize (p'++[y]).length=pl at *
      by_cases c1:0≤x
      · by_cases c2:x<8
        · by_cases c3:y<x
          · rw[dt c1,dt c2]
            simp only[dt c3,QF,if_true]
            simp (disch:=omega)only[go_sem,uX,AP.f184L0,b1,b2,bj,lj,n2]
          · rw[dt c1,dt c2]
            simp only[df c3,Qx,uo,uO]
            simp (disch:=omega)only[go_sem,uX,AP.f184L0,b1,b2,bj,lj,n2]
        · simp only[dt c1,df c2,Qu,Qx,uo,uO]
          simp (disch:=omega)only[go_sem,uX,AP.f184L0,b1,b2]
      · simp only[df c1,Qu,uo,uO]
        simp (disch:=omega)only[go_sem,uX,AP.f184L0,b1,b2]
   by_cases hok:MT p.getLast? x=true
   · rw[if_pos hok]at step
     rw[hok,QB]
     rcases ih with ⟨e',r1,r2⟩|⟨e',r1,r2,r3⟩
     · exact .inl ⟨e',sP step r1,r2⟩
     · exact .inr ⟨e',sP step r1,r2,r3⟩
   · have hok':MT p.getLast? x=false:=by simpa using hok
     rw[if_neg hok]at step
     rw[hok',Qu]
     exact .inr ⟨_,tk step,rfl,rfl⟩
theorem Fk (h:H) (v:AV) (l:List Int) (rd:Rd h v (ints l)) (hl:l.length<1125899906842624):aQ AP.A 184 [v] h=some (.bool (yH l),h):=by
 have xf:Ext h h.dU:=fun i c q=>q
 have rdf:Rd h.dU v (ints l):=rd.mono fun i c q=>xf i c q
 have r2:=rdf.DZ
 rw[o9]at r2
 have ln:=r2.len
 unfold yH
 rcases DJ hl h.dU rdf l [] rfl with ⟨e',r1,r3⟩|⟨e',r1,r3,r4⟩
 · have r1':Lp AP.A [0,5,6,7] AP.f184L0 [(0,v),(5,v),(6,.int .i64 l.length),(7,.int .i64 0)] h.dU=some (.exit 0,e',h.dU):=r1
   have r3':xF none l=true:=r3
   rw[r3']
   refine tB (fn:=AP.f184) (h2:=h.dU) (e:=[(2,.bool true)]) rfl rfl rfl ?_ rfl rfl
   clear rd rdf r2 r1 r3
   simp (disch:=omega)only[go_sem,uX,AP.f184,ln,rH,r1']
 · have r1':Lp AP.A [0,5,6,7] AP.f184L0 [(0,v),(5,v),(6,.int .i64 l.length),(7,.int .i64 0)] h.dU=some (.ret,e',h.dU):=r1
   have r4':xF none l=false:=r4
   rw[r4']
   refine tB (fn:=AP.f184) (h2:=h.dU) (e:=e') (vs:=[.bool false]) rfl rfl rfl ?_ (by simp only[AP.f184,cJ,mP,r3];rfl) rfl
   clear rd rdf r2 r1 r4
   simp (disch:=omega)only[go_sem,uX,AP.f184,ln,rH,r1']
theorem DU {v : AV} {l : List Int} (hl : l.length < 1125899906842624) (h : H) (rd : Rd h v (ints l)) (y : Int) : ∀ (q p : List Int), l = p ++ q →
 (∃e',Lp AP.A [0,1,7,8] AP.f189L0 [(0,v),(1,.int .i64 y),(7,.int .i64 l.length),(8,.int .i64 p.length)] h=some (.exit 0,e',h)∧q.contains y=false)∨
 (∃e',Lp AP.A [0,1,7,8] AP.f189L0 [(0,v),(1,.int .i64 y),(7,.int .i64 l.length),(8,.int .i64 p.length)] h=some (.ret,e',h)∧(∃k:Nat,look e' 4=.int .i64 k)∧q.contains y=true)
 | [], p, hp => by
   rw[Qv]at hp;subst hp
   refine .inl ⟨[(0,v),(1,.int .i64 y),(7,.int .i64 l.length),(8,.int .i64 l.length),(9,.bool false)],sN ?_,rfl⟩
   simp (disch:=omega)only[go_sem,uX,AP.f189L0]
 | x :: q, p, hp => by
   have hlen:l.length=p.length+(q.length+1):=by rw[hp];simp
   have hx:l[p.length]?=some x:=by rw[hp];simp
   obtain⟨ad,a1,a2⟩:=rd.wJ
   have b1:=a1 p.length ⟨by omega,by omega⟩
   have b2:=a2 h (Ext.refl h) p.length x hx
   have ih:=DU hl h rd y q (p++[x]) (by rw[hp];simp)
   have w1:((p++[x]).length:Int)=(p.length:Int)+1:=by simp
   rw[w1]at ih
   by_cases c:y=x
   · refine .inr ⟨[(4,.int .i64 p.length)],tk ?_,⟨p.length,rfl⟩,by simp [c]⟩
     clear ih rd a1 a2 hp w1
     simp (disch:=omega)only[go_sem,uX,AP.f189L0,b1,b2,c]
   · have step:aK (aQ AP.A) bA AP.f189L0 (ax [(0,v),(1,.int .i64 y),(7,.int .i64 l.length),(8,.int .i64 p.length)] [0,1,7,8]) h=some (.normal,[(0,v),(1,.int .i64 y),(7,.int .i64 l.length),(8,.int .i64 ((p.length:Int)+1))],h):=by
      clear ih rd a1 a2 hp w1
      simp (disch:=omega)only[go_sem,uX,AP.f189L0,b1,b2]
     have ec:(x::q).contains y=q.contains y:=by simp [c]
     rw[ec]
     rcases ih with ⟨e',r1,r2⟩|⟨e',r1,r2,r3⟩
     · exact .inl ⟨e',sP step r1,r2⟩
     · exact .inr ⟨e',sP step r1,r2,r3⟩
theorem EG (h:H) (v:AV) (l:List Int) (y:Int) (rd:Rd h v (ints l)) (hl:l.length<1125899906842624):aQ AP.A 185 [v,.int .i64 y] h=some (.bool (l.contains y),h):=by
 have xf:Ext h h.dU:=fun i c q=>q
 have rdf:Rd h.dU.dU v (ints l):=rd.mono fun i c q=>xf i c q
 have r2:=rdf.DZ
 rw[o9]at r2
 have ln:=r2.len
 have k1:∃k:Int,aQ AP.A 189 [v,.int .i64 y] h.dU=some (.int .i64 k,h.dU)∧(0≤k↔l.contains y=true):=by
  rcases DU hl h.dU.dU rdf y l [] rfl with ⟨e',r1,r3⟩|⟨e',r1,⟨k,r3⟩,r4⟩
  · have r1':Lp AP.A [0,1,7,8] AP.f189L0 [(0,v),(1,.int .i64 y),(7,.int .i64 l.length),(8,.int .i64 0)] h.dU.dU=some (.exit 0,e',h.dU.dU):=r1
    refine⟨-1,tB (fn:=AP.f189) (h2:=h.dU.dU) (e:=[(4,.int .i64 (-1))]) rfl rfl rfl ?_ rfl rfl,by rw[r3];simp⟩
    clear rd rdf r2 r1 r3
    simp (disch:=omega)only[go_sem,uX,AP.f189,ln,rH,r1']
  · have r1':Lp AP.A [0,1,7,8] AP.f189L0 [(0,v),(1,.int .i64 y),(7,.int .i64 l.length),(8,.int .i64 0)] h.dU.dU=some (.ret,e',h.dU.dU):=r1
    refine⟨k,tB (fn:=AP.f189) (h2:=h.dU.dU) (e:=e') (vs:=[.int .i64 k]) rfl rfl rfl ?_ (by simp only[AP.f189,cJ,mP,r3];rfl) rfl,by rw[r4];simp⟩
    clear rd rdf r2 r1 r4 r3
    simp (disch:=omega)only[go_sem,uX,AP.f189,ln,rH,r1']
 obtain⟨k,k1,k2⟩:=k1
 refine tB (fn:=AP.f185) (h2:=h.dU) (e:=[(4,.bool (l.contains y))]) rfl rfl rfl ?_ rfl rfl
 clear rd rdf r2
 cases hc:l.contains y with
 | true =>
   have:=k2.2 hc
   clear k2
   simp (disch:=omega)only[go_sem,uX,AP.f185,k1]
 | false =>
   have:¬0≤k:=fun q=>by rw[hc]at k2;cases k2.1 q
   clear k2
   simp (disch:=omega)only[go_sem,uX,AP.f185,k1]
abbrev xm:=E1×AV
def Hg (x:xm):List AV:=[.str x.1.1,x.2]
def wg (l:List xm):List AV:=l.flatMap Hg
theorem yr (x:xm):(Hg x).length=2:=rfl
theorem Du (l:List xm) (x:xm):wg (l++[x])=wg l++Hg x:=by simp [wg]
structure IJ (h0 h:H) (ov:AV) (x:xm):Prop where
 ex:∃j,x.2=.aD j 0 4 1∧h.get j=some (ints x.1.2)∧h0.next≤j∧ov.id?≠some j∧h.floor≤j
 l4:x.1.2.length=4
theorem IJ.mono {h0 h g:H} {ov ov':AV} {x:xm} (b:IJ h0 h ov x) (hf:g.floor=h.floor) (hg:∀j,j<h.next→ov.id?≠some j→g.get j=h.get j) (ho:∀j,j<h.next→ov.id?≠some j→ov'.id?≠some j):IJ h0 g ov' x:=by
 obtain⟨j,e1,e2,e3,e4,e5⟩:=b.ex
 have:=h.lt _ _ e2
 exact⟨⟨j,e1,by rw[hg j this e4];exact e2,e3,ho j this e4,by rw[hf];exact e5⟩,b.l4⟩
theorem Cw (l:List vv) (e:vv) (bs:List Int):vP (l++[e]) bs=if bs.contains ((EY e:Nat):Int)then vP l bs++[(e.name,e.vec)]else vP l bs:=by
 unfold vP
 rw[List.filter_append,QG]
 by_cases c:bs.contains ((EY e:Nat):Int)=true
 · rw[if_pos c,List.filter_cons,if_pos c];rfl
 · rw[if_neg c,List.filter_cons,if_neg c];simp
theorem yM (l:List vv) (bs:List Int):(vP l bs).length≤l.length:=by unfold vP;rw[Qr];exact List.length_filter_le _ _
theorem BG {v w:AV} {l:List vh} {bs:List Int} (h0:H) (rd:wv 9 h0 v l.length (u9 l)) (hv:∀x∈l,wM h0 x∧x.2.sc=true) (hm:vQ (l.map (·.1))=true) (rdb:Rd h0 w (ints bs)) (hbs:bs.length<1125899906842624):∀(q p:List vh),l=p++q→∀(h:H) (ov:AV) (acc:List xm),Ext h0 h→h0.next≤h.next→h.floor≤h.next→
 vr 2 h ov acc.length (wg acc)→acc.map (·.1)=vP (p.map (·.1)) bs→(∀x∈acc,IJ h0 h ov x)→(∀j,ov.id?=some j→h0.next≤j)→
 ∃e' h' ov' acc',Lp AP.A [1,6,18,19,20] AP.f178L0 [(1,w),(6,ov),(18,v),(19,.int .i64 l.length),(20,.int .i64 p.length)] h=some (.exit 0,e',h')∧look e' 6=ov'∧vr 2 h' ov' acc'.length (wg acc')∧acc'.map (·.1)=vP (l.map (·.1)) bs∧(∀x∈acc',IJ h0 h' ov' x)∧Ext h0 h'∧h'.floor=h.floor∧h.next≤h'.next∧∀j,ov'.id?=some j→h0.next≤j
 | [], p, hp, h, ov, acc, hx, hn, hf, o, ha, hb, hge => by
   rw[Qv]at hp;subst hp
   refine⟨[(1,w),(6,ov),(18,v),(19,.int .i64 l.length),(20,.int .i64 l.length),(21,.bool false)],h,ov,acc,sN ?_,rfl,o,ha,hb,hx,rfl,ur _,hge⟩
   simp (disch:=omega)only[go_sem,uX,AP.f178L0]
 | x :: q, p, hp, h, ov, acc, hx, hn, hf, o, ha, hb, hge => by
   unfold vQ at hm
   have hm':=hm
   rw[uu]at hm
   obtain⟨m1,m2,m3⟩:=vC hm.1
   rw[Qr]at m1
   have hl:l[p.length]?=some x:=by rw[hp];simp
   have hlen:l.length=p.length+(q.length+1):=by rw[hp];simp
   have may:vV x.1=true:=QE.1 hm.2 x.1 (by rw[hp];simp)
   have nsz:=wB (m2 x.1 (by rw[hp];simp)).1
   have v4:x.1.vec.length=4:=(xo (m2 x.1 (by rw[hp];simp)).2.1).1
   obtain⟨ad,a1,a2⟩:=rd.EZ
   have b1:=a1 p.length ⟨by omega,by omega⟩
   obtain⟨_,b2⟩:=a2 h hx p.length x hl
   obtain⟨ok,sc⟩:=hv x (by rw[hp];simp)
   obtain⟨E,hE⟩:∃E,E=uY x.1 x.2:=⟨_,rfl⟩
   have lE:E.length=9:=by rw[hE];rfl
   have cE:AV.aB E=true:=by rw[hE];exact wY sc
   have E0:E[0]?=some (.str x.1.name):=by rw[hE];rfl
   have E2:E[2]?=some x.2:=by rw[hE];rfl
   obtain⟨g0,eg0⟩:∃g,g=h.alloc Z9:=⟨_,rfl⟩
   obtain⟨g1,eg1⟩:∃g,g=g0.set h.next E:=⟨_,rfl⟩
   have z0:g0.get h.next=some Z9:=by rw[eg0,uW rfl]
   have st:tD g0 h.next 0 9 E (some Z9)=some g1:=by rw[eg1];exact vE (by rw[eg0];simp;exact hf) lE rfl cE
   have z1:g1.get h.next=some E:=by rw[eg1,uZ rfl,z0];rfl
   have low:∀i,i<h.next→g1.get i=h.get i:=fun i hi=>by rw[eg1,uU (by omega),eg0,u6 (by omega)]
   have f1:g1.floor=h.floor:=by rw[eg1,eg0];simp
   have n1:g1.next=h.next+1:=by rw[eg1,eg0];simp
   have x1:Ext h0 g1:=fun i c q=>by rw[low i (by have:=h0.lt _ _ q;omega)];exact hx i c q
   have k2:=Cy g1 x.1.name (by omega)
   have k3:=EG g1 w bs ((EY x.1:Nat):Int) (rdb.mono fun i c q=>x1 i c q) hbs
   have a0:h.alloc [.str ⟨#[]⟩,.bool false,.aO,.int .i64 0,.int .i64 0,.int .i64 0,.str ⟨#[]⟩,.int .i64 0,.int .i64 0]=g0:=eg0.symm
   have w1:((p++[x]).length:Int)=(p.length:Int)+1:=by simp
   have k2':aQ AP.A 179 [.str x.1.name] g1=some (.int .i64 ((EY x.1:Nat):Int),g1):=k2
   have al:=QN List.length ha
   rw[Qr]at al
   have bl:=yM (p.map (·.1)) bs
   rw[Qr]at bl
   have bs':=Cw (p.map (·.1)) x.1 bs
   cases hc:bs.contains ((EY x.1:Nat):Int)with
   | false =>
     rw[hc]at k3
     rw[hc,if_neg (by decide)]at bs'
     obtain⟨e',h2,ov',acc',r1,r2⟩:=BG h0 rd hv hm' rdb hbs q (p++[x]) (by rw[hp];simp) g1 ov acc x1 (by omega) (by omega) (o.mono f1 fun i q=>low i (o.lt q).2) (by rw[QG,List.map_singleton,bs'];exact ha) (fun y hy=>(hb y hy).mono f1 (fun j q1 _=>low j q1) (fun _ _ q=>q)) hge
     rw[w1]at r1
     refine⟨e',h2,ov',acc',sP ?_ r1,r2.1,r2.2.1,r2.2.2.1,r2.2.2.2.1,r2.2.2.2.2.1,by rw[r2.2.2.2.2.2.1,f1],by have:=r2.2.2.2.2.2.2.1;omega,r2.2.2.2.2.2.2.2⟩
     rw[←hE]at b2
     clear r1 r2 hE hv rd a1 a2 x1 low hx hm hm' m2 may hp eg0 eg1 o hb ha rdb bs' k2 al bl
     generalize ((EY x.1:Nat):Int)=B at *
     simp (disch:=omega)only[go_sem,uX,AP.f178L0,b1,b2,a0,z0,lE,cE,st,z1,E0,E2,k2',k3]
   | true =>
     rw[hc]at k3
     rw[hc,if_pos rfl]at bs'
     have k4:=BI g1 x.2 x.1.vec (ok.mono x1).vec (by omega) (by omega) (by omega)
     rw[v4]at k4
     obtain⟨g2,eg2⟩:∃g,g=((g1.alloc []).del g1.next).alloc (ints x.1.vec):=⟨_,rfl⟩
     rw[←eg2]at k4
     have low2:∀i,i<g1.next→g2.get i=g1.get i:=fun i hi=>by rw[eg2,u6 (by simp;omega),ye (by omega),u6 (by omega)]
     have f2:g2.floor=h.floor:=by rw[eg2];simp [f1]
     have n2:g2.next=h.next+3:=by rw[eg2];simp [n1]
     have z2:g2.get h.next=some E:=by rw[low2 _ (by omega)];exact z1
     have zv:g2.get (g1.next+1)=some (ints x.1.vec):=by rw[eg2,uW (by simp)]
     have lo2:∀i,i<h.next→g2.get i=h.get i:=fun i hi=>by rw[low2 i (by omega),low i hi]
     have x2:Ext h0 g2:=fun i c q=>by rw[lo2 i (by have:=h0.lt _ _ q;omega)];exact hx i c q
     have o2:vr 2 g2 ov acc.length (wg acc):=o.mono f2 fun i q=>lo2 i (o.lt q).2
     obtain⟨v',h',p1,p2,p3,p4,p5,p6⟩:=o2.push (by omega) (z:=40) (m:=1) (by omega) (by omega) [.str x.1.name,.aD (g1.next+1) 0 4 1] rfl rfl (by simp [roomy];omega)
     have ea:wg acc++[.str x.1.name,.aD (g1.next+1) 0 4 1]=wg (acc++[((x.1.name,x.1.vec),.aD (g1.next+1) 0 4 1)]):=by rw[Du];rfl
     rw[ea]at p2
     have ovl:∀j,ov.id?=some j→j<h.next:=fun j q=>(o.lt q).2
     obtain⟨e',h2,ov',acc',r1,r2⟩:=BG h0 rd hv hm' rdb hbs q (p++[x]) (by rw[hp];simp) h' v' (acc++[((x.1.name,x.1.vec),.aD (g1.next+1) 0 4 1)]) (fun i c q=>by
      have:=h0.lt _ _ q
      rw[p5 i (fun q2=>by have:=hge i q2;omega) (by omega)];exact x2 i c q) (by omega) (by omega) (by rw[uN,List.length_singleton];exact p2) (by rw[QG,QG,List.map_singleton,List.map_singleton,bs',ha]) (fun y hy=>by
      rcases List.mem_append.1 hy with hy|hy
      · refine(hb y hy).mono (by rw[p3,f2]) (fun j q1 q2=>by rw[p5 j q2 (by omega),lo2 j q1]) (fun j q1 _=>by rw[p6];intro q2;have:=ue q2;omega)
      · obtain rfl:y=_:=QL.1 hy
        refine⟨⟨g1.next+1,rfl, ?_,by omega,by rw[p6];intro q2;have:=ue q2;omega,by rw[p3,f2];omega⟩,v4⟩
        rw[p5 _ (fun q2=>by have:=ovl _ q2;omega) (by omega)]
        exact zv) (fun j q=>by rw[p6]at q;have:=ue q;omega)
     rw[w1]at r1
     refine⟨e',h2,ov',acc',sP ?_ r1,r2.1,r2.2.1,r2.2.2.1,r2.2.2.2.1,r2.2.2.2.2.1,by rw[r2.2.2.2.2.2.1,p3,f2],by have:=r2.2.2.2.2.2.2.1;omega,r2.2.2.2.2.2.2.2⟩
     rw[←hE]at b2
     clear r1 r2 hE hv rd a1 a2 x1 low hx hm hm' m2 may hp eg0 eg1 o o2 hb ha rdb bs' k2 al bl lo2 low2 x2 p2 ea zv eg2 ovl
     generalize ((EY x.1:Nat):Int)=B at *
     simp (disch:=omega)only[go_sem,uX,AP.f178L0,b1,b2,a0,z0,lE,cE,st,z1,z2,E0,E2,k2',k3,k4,p1]
theorem Fo (h : H) (hf : h.floor ≤ h.next) (v w : AV) (l : List vh) (bs : List Int) (hvs : v.sc = true) (hn : l.length < 1125899906842624) (rd : wv 9 h v l.length (u9 l)) (hv : ∀ x ∈ l, wM h x ∧ x.2.sc = true) (rdb : Rd h w (ints bs)) (hbs : bs.length < 1125899906842624) :
 ∃ov h' acc,aQ AP.A 178 [.agg [v],w] h=some (.bO [ov,.int .i64 (if vQ (l.map (·.1))&&yH bs then 0 else 1600)],h')∧MP 2 h ov h' acc.length (wg acc)∧acc.map (·.1)=(if vQ (l.map (·.1))&&yH bs then vP (l.map (·.1)) bs else [])∧∀x∈acc,IJ h h' ov x:=by
 obtain⟨g1,eg1⟩:∃g,g=h.alloc [v]:=⟨_,rfl⟩
 have hx1:Ext h g1:=by rw[eg1];exact(Ext.refl h).alloc _
 have z1:g1.get h.next=some [v]:=by rw[eg1];exact uW rfl
 have f1:g1.floor=h.floor:=by rw[eg1];simp
 have n1:g1.next=h.next+1:=by rw[eg1];simp
 have rd1:=rd.mono fun i c q=>hx1 i c q
 have hv1:∀x∈l,wM g1 x∧x.2.sc=true:=fun x hx=>⟨(hv x hx).1.mono hx1,(hv x hx).2⟩
 have rdb1:Rd g1 w (ints bs):=rdb.mono fun i c q=>hx1 i c q
 have k1:=FH g1 v l hvs hn rd1 hv1
 have k2:=Fk g1 w bs rdb1 hbs
 have ln:=rd1.len
 cases hm:vQ (l.map (·.1))with
 | false =>
   rw[hm]at k1
   refine⟨.aO,g1,[], ?_,⟨vr.nil,hx1,f1,by omega,fun i q=>by cases q⟩,rfl,fun x hx=>by cases hx⟩
   refine ta (fn:=AP.f178) (h2:=g1) (e:=[(4,.aO),(5,.int .i64 1600)]) (vs:=[.aO,.int .i64 1600]) rfl rfl rfl ?_ rfl
   clear rd rd1 hv hv1 hx1 rdb rdb1
   simp (disch:=omega)only[go_sem,uX,AP.f178,hvs,←eg1,z1,wo,k1,k2]
 | true =>
   rw[hm]at k1
   cases hb:yH bs with
   | false =>
     rw[hb]at k2
     refine⟨.aO,g1,[], ?_,⟨vr.nil,hx1,f1,by omega,fun i q=>by cases q⟩,rfl,fun x hx=>by cases hx⟩
     refine ta (fn:=AP.f178) (h2:=g1) (e:=[(4,.aO),(5,.int .i64 1600)]) (vs:=[.aO,.int .i64 1600]) rfl rfl rfl ?_ rfl
     clear rd rd1 hv hv1 hx1 rdb rdb1
     simp (disch:=omega)only[go_sem,uX,AP.f178,hvs,←eg1,z1,wo,k1,k2]
   | true =>
     rw[hb]at k2
     obtain⟨e',g2,ov,acc,r1,r2,r3,r4,r5,r6,r7,r8,r9⟩:=BG g1 rd1 hv1 hm rdb1 hbs l [] rfl g1 .aO [] (Ext.refl _) (ur _) (by omega) vr.nil rfl (fun x hx=>by cases hx) (fun j q=>by cases q)
     have r1':Lp AP.A [1,6,18,19,20] AP.f178L0 [(1,w),(6,.aO),(18,v),(19,.int .i64 l.length),(20,.int .i64 0)] g1=some (.exit 0,e',g2):=r1
     refine⟨ov,g2,acc, ?_,⟨r3,fun i c q=>r6 i c (hx1 i c q),by rw[r7,f1],by omega,fun j q=>by have:=r9 j q;omega⟩,r4,fun x hx=> ?_⟩
     · refine ta (fn:=AP.f178) (h2:=g2) (e:=[(4,ov),(5,.int .i64 0)]) (vs:=[ov,.int .i64 0]) rfl rfl rfl ?_ rfl
       clear rd rd1 hv hv1 hx1 rdb rdb1 r1 r3 r4 r5 r6
       simp (disch:=omega)only[go_sem,uX,AP.f178,hvs,←eg1,z1,wo,k1,k2,ln,rH,r1',r2]
     · have b:=r5 x hx
       obtain⟨j,q1,q2,q3,q4,q5⟩:=b.ex
       exact⟨⟨j,q1,q2,by omega,q4,q5⟩,b.l4⟩
theorem Km (h:H) (hf:h.floor≤h.next) (v:AV) (l:List vh) (hvs:v.sc=true) (hn:l.length<1125899906842624) (rd:wv 9 h v l.length (u9 l)) (hv:∀x∈l,wM h x∧x.2.sc=true) (hm:vQ (l.map (·.1))=true):
 ∃i h',aQ AP.A 177 [.agg [v]] h=some (.bO [.aD i 0 8 1,.int .i64 0],h')∧h'.get i=some (ints (vw (l.map (·.1))))∧Ext h h'∧h'.floor=h.floor∧h.next≤h'.next∧h.next≤i:=by
 obtain⟨w,h',k,g⟩:=Dv h hf v l hvs hn rd hv
 simp only[hm,if_true]at k g
 rw[vm]at g
 obtain⟨_,⟨_,q⟩|⟨i,q1,q2,_⟩⟩:=g.own
 · cases q
 · subst q1;exact⟨i,h',k,q2,g.ext,g.fl,g.nx,g.ge i rfl⟩
theorem Kl (h:H) (hf:h.floor≤h.next) (v:AV) (l:List vh) (hvs:v.sc=true) (hn:l.length<1125899906842624) (rd:wv 9 h v l.length (u9 l)) (hv:∀x∈l,wM h x∧x.2.sc=true) (hm:vQ (l.map (·.1))=false):
 ∃h',aQ AP.A 177 [.agg [v]] h=some (.bO [.aO,.int .i64 1600],h')∧Ext h h'∧h'.floor=h.floor∧h.next≤h'.next:=by
 obtain⟨w,h',k,g⟩:=Dv h hf v l hvs hn rd hv
 simp only[hm,uo,uO]at k g
 obtain⟨_,⟨q,_⟩|⟨i,_,_,_,q⟩⟩:=g.own
 · subst q;exact⟨h',k,g.ext,g.fl,g.nx⟩
 · simp at q
theorem Fp (h:H) (hf:h.floor≤h.next) (v w:AV) (l:List vh) (bs:List Int) (hvs:v.sc=true) (hn:l.length<1125899906842624) (rd:wv 9 h v l.length (u9 l)) (hv:∀x∈l,wM h x∧x.2.sc=true) (rdb:Rd h w (ints bs)) (hbs:bs.length<1125899906842624) (hm:(vQ (l.map (·.1))&&yH bs)=true):
 ∃ov h' acc,aQ AP.A 178 [.agg [v],w] h=some (.bO [ov,.int .i64 0],h')∧MP 2 h ov h' acc.length (wg acc)∧acc.map (·.1)=vP (l.map (·.1)) bs∧∀x∈acc,IJ h h' ov x:=by
 have:=Fo h hf v w l bs hvs hn rd hv rdb hbs
 simpa only[hm,if_true]using this
structure yJ where
 kind:Int
 src:Int
 dst:Int
 root:Int
 vJ:List Int
 vR:List Int
 u3:List E1
 names:List ByteArray
 vF:List vv
def wj:Option ByteArray→List ByteArray→Bool
 |_,[]=>true
 |p,s::r=>(vO s&&(match p with|none=>true|some q=>Op.bytesLess q.toList s.toList))&&wj (some s) r
def xr (m:yJ):Bool:=
 (decide (m.kind=0)||decide (m.root=0))&&((decide (m.kind=1)||decide (m.vJ.length=0))&&((decide (m.kind=2)||decide (m.vR.length+m.u3.length=0))&&((decide (m.kind=3)||decide (m.names.length=0))&&(decide (m.kind=4)||decide (m.vF.length=0)))))
def wO (m:yJ):Bool:=
 if m.kind=0 then yU m.root
 else if m.kind=1 then decide (m.vJ.length=8)&&m.vJ.all yU
 else if m.kind=2 then decide (1≤m.vR.length)&&(yH m.vR&&(wj none (m.u3.map (·.1))&&(decide (m.u3.length≤6)&&m.u3.all fun b=>w8 b.2)))
 else if m.kind=3 then wj none m.names&&(decide (1≤m.names.length)&&decide (m.names.length≤6))
 else if m.kind=4 then decide (1≤m.vF.length)&&vQ m.vF
 else false
def xU (m:yJ):Bool:=(vD m.src&&(vD m.dst&& !decide (m.src=m.dst)))&&(wO m&&xr m)
structure PO (e:vv):Prop where
 nm:e.name.size≤8
 pk:e.packed.size≤300
 v4:e.vec.length=4
 vc:∀n∈e.vec,0≤n∧n≤1048576
 st:1≤e.vp∧e.vp≤1048576
 nd:0≤e.node∧e.node<4
 mt:e.method=0∨e.method=8
 sz:0≤e.size∧e.size≤300
 cr:0≤e.zu∧e.zu≤4294967295
theorem Br:∀{l:List ByteArray} {p:Option ByteArray},wj p l=true→∀s∈l,s.size≤8
 |[],_,_,s,h=>by cases h
 | x :: l, p, hr, s, h => by
   unfold wj at hr
   rw[uu,uu]at hr
   rcases uK.1 h with rfl|h
   · have:=wB hr.1.1;omega
   · exact Br hr.2 s h
structure IK (h0 h:H) (ov:AV) (x:vh):Prop where
 ok:wM h x
 sc:x.2.sc=true
 id:∀i,x.2.id?=some i→h0.next≤i∧i<h.next∧ov.id?≠some i∧h.floor≤i
 wr:∃i cs,x.2=.aD i 0 x.1.vec.length 1∧h.get i=some cs∧(0<x.1.vec.length→cs=ints x.1.vec)
theorem IK.mono {h0 h g:H} {ov ov':AV} {x:vh} (b:IK h0 h ov x) (hf:g.floor=h.floor) (hn:h.next≤g.next) (hg:∀j c,ov.id?≠some j→h.get j=some c→g.get j=some c) (ho:∀j,j<h.next→ov.id?≠some j→ov'.id?≠some j):IK h0 g ov' x:=by
 obtain⟨i,cs,e1,e2,e3⟩:=b.wr
 have q:=b.id i (by rw[e1];rfl)
 have e4:=hg i cs q.2.2.1 e2
 exact⟨b.ok.zk fun k q'=>(by rw[e1]at q';obtain rfl:=ue q';rw[e4,e2]),b.sc,fun i q=>⟨(b.id i q).1,by have:=(b.id i q).2.1;omega,ho i (b.id i q).2.1 (b.id i q).2.2.1,by rw[hf];exact(b.id i q).2.2.2⟩,⟨i,cs,e1,e4,e3⟩⟩
theorem DK {v : AV} {l : List vh} (hn0 : l.length < 1353300000000) (h0 : H) (rd : wv 9 h0 v l.length (u9 l)) (hv : ∀ x ∈ l, wM h0 x ∧ x.2.sc = true ∧ x.1.vec.length < 20000000000000) : ∀ (q p : List vh), l = p ++ q → ∀ (h : H) (ov : AV) (acc : List vh), Ext h0 h → h0.next ≤ h.next → h.floor ≤ h.next →
 vr 9 h ov acc.length (u9 acc)→acc.map (·.1)=p.map (·.1)→(∀x∈acc,IK h0 h ov x)→(∀j,ov.id?=some j→h0.next≤j)→h0.floor=h.floor→
 ∃e' h' ov' acc',Lp AP.A [0,3,4] AP.f204L0 [(0,v),(3,ov),(4,.int .i64 p.length)] h=some (.exit 0,e',h')∧look e' 3=ov'∧vr 9 h' ov' acc'.length (u9 acc')∧acc'.map (·.1)=l.map (·.1)∧(∀x∈acc',IK h0 h' ov' x)∧Ext h0 h'∧h'.floor=h.floor∧h.next≤h'.next∧∀j,ov'.id?=some j→h0.next≤j
 | [], p, hp, h, ov, acc, hx, hn, hf, o, ha, hb, hge, hfl => by
   rw[Qv]at hp;subst hp
   have ln:=(rd.mono fun i c q=>hx i c q).len
   refine⟨[(0,v),(3,ov),(4,.int .i64 l.length),(8,.bool false)],h,ov,acc,sN ?_,rfl,o,ha,hb,hx,rfl,ur _,hge⟩
   simp (disch:=omega)only[go_sem,uX,AP.f204L0,ln]
 | x :: q, p, hp, h, ov, acc, hx, hn, hf, o, ha, hb, hge, hfl => by
   have hl:l[p.length]?=some x:=by rw[hp];simp
   have hlen:l.length=p.length+(q.length+1):=by rw[hp];simp
   have ln:=(rd.mono fun i c q=>hx i c q).len
   obtain⟨ad,a1,a2⟩:=rd.EZ
   have b1:=a1 p.length ⟨by omega,by omega⟩
   obtain⟨_,b2⟩:=a2 h hx p.length x hl
   obtain⟨ok,sc,vl⟩:=hv x (by rw[hp];simp)
   obtain⟨g1,u,k1,hu,ru,f1,n1,x1,gu⟩:=Ho h hf x.1 x.2 sc (ok.mono hx) vl
   have scu:u.sc=true:=by rw[hu];split<;>rfl
   have idu:∃j cs,u=.aD j 0 x.1.vec.length 1∧h.next≤j∧g1.get j=some cs∧(0<x.1.vec.length→cs=ints x.1.vec):=by
    by_cases c:x.1.vec=[]
    · rw[if_pos c]at hu
      have r:=ru.1
      rw[hu]at r
      simp only[aR,if_true]at r
      cases hg:g1.get (h.next+2)with
      |none=>rw[hg]at r;cases r
      |some cs=>exact⟨h.next+2,cs,by rw[hu,c];rfl,by omega,hg,fun q=>by rw[c]at q;simp at q⟩
    · rw[if_neg c]at hu
      exact⟨h.next+3,_,hu,by omega,gu (QK.2 c),fun _=>rfl⟩
   obtain⟨j,cs,ej,hj,gj,hcs⟩:=idu
   have jn:=g1.lt _ _ gj
   have o1:vr 9 g1 ov acc.length (u9 acc):=o.mono f1 fun i q=>by
    obtain⟨_,o⟩:=o
    rcases o with ⟨rfl,_⟩|⟨i',rfl,o1,_⟩
    · cases q
    · obtain rfl:=ue q;rw[o1];exact x1 _ _ o1
   obtain⟨E,hE⟩:∃E,E=uY x.1 u:=⟨_,rfl⟩
   have lE:E.length=9:=by rw[hE];rfl
   have cE:AV.aB E=true:=by rw[hE];exact wY scu
   have fE:setFrom Z9 0 E=E:=by rw[hE];rfl
   have al:=QN List.length ha
   rw[Qr,Qr]at al
   obtain⟨v',h',p1,p2,p3,p4,p5,p6⟩:=o1.push (by omega) (z:=104) (m:=1) (by omega) (by omega) E (by rw[lE]) cE (by simp [roomy];omega)
   have ea:u9 acc++E=u9 (acc++[(x.1,u)]):=by rw[Al,hE]
   rw[ea]at p2
   obtain ⟨e', h2, ov', acc', r1, r2⟩ := DK hn0 h0 rd hv q (p ++ [x]) (by rw [hp]; simp) h' v' (acc ++ [(x.1, u)]) (fun i c q => by
    have:=h0.lt _ _ q
    rw[p5 i (fun q2=>by have:=hge i q2;omega) (by omega)];exact x1 _ _ (hx i c q)) (by omega) (by omega) (by rw[uN,List.length_singleton];exact p2) (by rw[QG,QG,ha];rfl) (fun y hy=>by
    rcases List.mem_append.1 hy with hy|hy
    · refine(hb y hy).mono (by rw[p3,f1]) (by omega) (fun j c q1 q2=>by rw[p5 j q1 (by have:=h.lt _ _ q2;omega)];exact x1 _ _ q2) (fun j q1 _=>by rw[p6];intro q2;have:=ue q2;omega)
    · obtain rfl:y=_:=QL.1 hy
      have gj':h'.get j=g1.get j:=p5 j (fun q2=>by have:=(o.lt q2).2;omega) jn
      refine⟨⟨?_,ok.vl,ok.nl,ok.pl⟩,scu,fun i q=> ?_,⟨j,cs,ej,by rw[gj'];exact gj,hcs⟩⟩
      · exact ru.zk fun i q=>by rw[ej]at q;obtain rfl:=ue q;exact gj'
      · rw[show((x.1,u):vh).2=u from rfl,ej]at q
        obtain rfl:=ue q
        exact⟨by omega,by omega,by rw[p6];intro q2;have:=ue q2;omega,by rw[p3,f1];omega⟩) (fun j q=>by rw[p6]at q;have:=ue q;omega) (by rw[p3,f1,hfl])
   have w1:((p++[x]).length:Int)=(p.length:Int)+1:=by simp
   rw[w1]at r1
   refine⟨e',h2,ov',acc',sP ?_ r1,r2.1,r2.2.1,r2.2.2.1,r2.2.2.2.1,r2.2.2.2.2.1,by rw[r2.2.2.2.2.2.1,p3,f1],by have:=r2.2.2.2.2.2.2.1;omega,r2.2.2.2.2.2.2.2⟩
   rw[←hE]at k1
   clear r1 r2 hv rd a1 a2 x1 hx hp o o1 hb ha ea p2 gu ru
   generalize uY x.1 x.2=F at *
   simp (disch:=omega)only[go_sem,uX,AP.f204L0,ln,b1,b2,k1,lE,cE,fE,p1]
theorem Fw (h:H) (hf:h.floor≤h.next) (v:AV) (l:List vh) (hn0:l.length<1353300000000) (rd:wv 9 h v l.length (u9 l)) (hv:∀x∈l,wM h x∧x.2.sc=true∧x.1.vec.length<20000000000000):
 ∃w h' acc,aQ AP.A 204 [v] h=some (w,h')∧MP 9 h w h' acc.length (u9 acc)∧acc.map (·.1)=l.map (·.1)∧∀x∈acc,IK h h' w x:=by
 obtain⟨e',h',ov',acc,r1,r2,r3,r4,r5,r6,r7,r8,r9⟩:=DK hn0 h rd hv l [] rfl h .aO [] (Ext.refl h) (ur _) hf vr.nil rfl (fun x hx=>by cases hx) (fun j q=>by cases q) rfl
 have r1':Lp AP.A [0,3,4] AP.f204L0 [(0,v),(3,.aO),(4,.int .i64 0)] h=some (.exit 0,e',h'):=r1
 refine⟨ov',h',acc, ?_,⟨r3,r6,r7,r8,r9⟩,r4,r5⟩
 refine ta (fn:=AP.f204) (h2:=h') (e:=[(2,ov')]) (vs:=[ov']) rfl rfl rfl ?_ rfl
 clear rd hv r1 r3 r4 r5 r6
 simp (disch:=omega)only[go_sem,uX,AP.f204,rH,r1',r2]
theorem Hp (h:H) (hf:h.floor≤h.next) (v:AV) (l:List vh) (hvs:v.sc=true) (hn0:l.length<1353300000000) (rd:wv 9 h v l.length (u9 l)) (hv:∀x∈l,wM h x∧x.2.sc=true∧x.1.vec.length<20000000000000):
 ∃w h' acc,aQ AP.A 196 [.agg [v]] h=some (.agg [w],h')∧MP 9 h w h' acc.length (u9 acc)∧acc.map (·.1)=l.map (·.1)∧∀x∈acc,IK h h' w x:=by
 obtain⟨g1,eg1⟩:∃g,g=h.alloc [v]:=⟨_,rfl⟩
 obtain⟨g2,eg2⟩:∃g,g=g1.alloc [.aO]:=⟨_,rfl⟩
 have n1:g1.next=h.next+1:=by rw[eg1];simp
 have n2:g2.next=h.next+2:=by rw[eg2];simp [n1]
 have f2:g2.floor=h.floor:=by rw[eg2,eg1];simp
 have x2:Ext h g2:=by rw[eg2,eg1];exact((Ext.refl h).alloc _).alloc _
 have z1:g2.get h.next=some [v]:=by rw[eg2,u6 (by omega),eg1,uW rfl]
 have z2:g2.get (h.next+1)=some [.aO]:=by rw[eg2,uW (by omega)]
 obtain⟨w,g3,acc,k1,gen,ha,hb⟩:=Fw g2 (by omega) v l hn0 (rd.mono fun i c q=>x2 i c q) (fun x hx=>⟨(hv x hx).1.mono x2,(hv x hx).2⟩)
 have z3:=gen.ext _ _ z2
 have hw:=gen.own.sc
 have cw:=wK hw
 obtain⟨g4,eg4⟩:∃g,g=g3.set (h.next+1) [w]:=⟨_,rfl⟩
 have st:tD g3 (h.next+1) 0 1 [w] (some [.aO])=some g4:=by rw[tV (by rw[gen.fl,f2];omega) (by simp) hw,eg4];rfl
 have z4:g4.get (h.next+1)=some [w]:=by rw[eg4,uZ rfl,z3];rfl
 have vI:∀i,i≠h.next+1→g4.get i=g3.get i:=fun i hi=>by rw[eg4,uU hi]
 have gn:=gen.nx
 refine⟨w,g4,acc, ?_,⟨gen.own.mono (by rw[eg4];simp) (fun i q=>vI i (by have:=gen.ge i q;omega)),fun i c q=> ?_,by rw[eg4];simp [gen.fl,f2],by rw[eg4];simp;omega,fun i q=>by have:=gen.ge i q;omega⟩,ha,fun x hx=> ?_⟩
 · refine ta (fn:=AP.f196) (h2:=g4) (e:=[(2,.aC (h.next+1) 0)]) (vs:=[.agg [w]]) rfl rfl rfl ?_ (by simp only[AP.f196,cJ,mP,mD,qk,z4,sI];rfl)
   clear rd hv hb ha gen vI x2
   simp (disch:=omega)only[go_sem,uX,AP.f196,hvs,←eg1,n1,←eg2,z1,k1,z3,hw,cw,st]
 · have:=h.lt _ _ q
   rw[vI i (by omega)];exact gen.ext _ _ (x2 _ _ q)
 · have b:=hb x hx
   obtain⟨j,cs,q1,q2,q3⟩:=b.wr
   have q4:=b.id j (by rw[q1];rfl)
   exact⟨b.ok.zk fun i q=>vI i (by have:=(b.id i q).1;omega),b.sc,fun i q=>⟨by have:=(b.id i q).1;omega,by rw[eg4];simp;exact(b.id i q).2.1,(b.id i q).2.2.1,by rw[eg4];simp;exact(b.id i q).2.2.2⟩,⟨j,cs,q1,by rw[vI j (by omega)];exact q2,q3⟩⟩
structure GY (h:H) (v:AV) (l:List xm):Prop where
 rd:wv 2 h v l.length (wg l)
 vec:∀x∈l,Rd h x.2 (ints x.1.2)∧x.1.2.length<1125899906842624
theorem GY.mono {h g:H} {v:AV} {l:List xm} (r:GY h v l) (e:Ext h g):GY g v l:=⟨r.rd.mono fun i c q=>e i c q,fun x hx=>⟨(r.vec x hx).1.mono fun i c q=>e i c q,(r.vec x hx).2⟩⟩
theorem GY.at_ {h:H} {v:AV} {l:List xm} (r:GY h v l):∃ad:Int→Nat→AV,(∀i:Int,0≤i∧i<l.length→fM 2 v (.int .i64 i)=some (ad i 0)∧eY 0 (ad i 0)=some (ad i 0)∧eY 1 (ad i 0)=some (ad i 1))∧
 (∀(i:Nat) (x:xm),l[i]?=some x→bS false 1 (ad i 0) h=some (.str x.1.1)∧bS false 1 (ad i 1) h=some x.2):=by
 obtain⟨ad,a1,a2,a4,a3⟩:=r.rd.at_
 refine⟨ad,fun i hi=>⟨a1 i hi,a2 i 0 0 hi,a2 i 0 1 hi⟩,fun i x hx=> ?_⟩
 have hi:i<l.length:=(uk.1 hx).1
 have g:=fun k (hk:k<2)=>yg (f:=k) yr hx hk
 refine⟨(a3 h fun _ _ q=>q).1 i 0 _ ⟨by omega,by omega⟩ ?_,(a3 h fun _ _ q=>q).1 i 1 _ ⟨by omega,by omega⟩ ?_⟩
 · rw[wD];exact g 0 (by omega)
 · rw[wD];exact g 1 (by omega)
theorem Gd {g:H} {n:Nat} {E:List AV} (hg:g.get n=some E) (hE:E.length=9):wv 9 g (.aD n 0 1 9) 1 E:=by
 refine⟨?_,by omega,fun _=>by simp⟩
 simp only[aR,if_true,hg,um,uy,Nat.one_mul]
 rw[if_pos (by omega),Qs,uI (by omega)]
theorem Ep (x:Int) (k:Nat) (hk:k≤62):bits .and .i64 x ((2^k-1:Nat):Int)=x%((2^k:Nat):Int):=by
 have h2:2^k≤2^62:=QA (by omega) hk
 have h3:0<2^k:=Nat.pow_pos (by omega)
 show IntKind.wrap .i64 (((BitVec.ofInt 64 x&&&BitVec.ofInt 64 ((2^k-1:Nat):Int)).toNat:Nat):Int)=_
 rw[BitVec.toNat_and,wA 64 (2^k-1) (by omega),BitVec.toNat_ofInt,Nat.and_two_pow_sub_one_eq_mod,uS (by
  have:=Nat.mod_lt (x%((2^64:Nat):Int)).toNat h3
  omega)]
 have e:(((x%((2^64:Nat):Int)).toNat:Nat):Int)=x%((2^64:Nat):Int):=Int.toNat_of_nonneg (Int.emod_nonneg _ (by decide))
 rw[Int.natCast_emod,e]
 refine Int.emod_emod_of_dvd x ?_
 refine Int.natCast_dvd_natCast.2 (Nat.pow_dvd_pow 2 (by omega))
theorem G5 (x:Int):bits .and .i64 x 1023=x%1024:=Ep x 10 (by omega)
theorem OY (x:Int) (n:Nat) (hn:0<n):∃r:Nat,r<n∧(IntKind.wrap .u64 x).tmod (n:Int)=r:=by
 have h0:0≤IntKind.wrap .u64 x:=by simp only[IntKind.wrap,IntKind.signed,IntKind.bits];simp;omega
 obtain⟨m,hm⟩:∃m:Nat,IntKind.wrap .u64 x=m:=⟨(IntKind.wrap .u64 x).toNat,by omega⟩
 rw[hm]
 exact⟨m%n,Nat.mod_lt _ hn,by rw[Int.tmod_eq_emod_of_nonneg (by omega)];omega⟩
theorem Ds {a d:Nat} (ha:a<4294967296) (hd:d<4294967296):bits .xor .i64 (a:Int) (d:Int)=((a^^^d:Nat):Int):=by
 have h3:a^^^d<4294967296:=xN ha hd
 show IntKind.wrap .i64 (((BitVec.ofInt 64 (a:Int)^^^BitVec.ofInt 64 (d:Int)).toNat:Nat):Int)=_
 rw[BitVec.toNat_xor,wA 64 a (by omega),wA 64 d (by omega)]
 exact uS (by omega)
theorem MH {a d:Nat} (hd:d≠0):a^^^d≠a:=by
 intro h
 have:a^^^(a^^^d)=a^^^a:=by rw[h]
 rw[←Nat.xor_assoc,Nat.xor_self,Nat.zero_xor]at this
 exact hd this
def FQ (b:E1):xm:=(b,xK b.2)
def Fq (l:List E1):AV:=Eb 2 l.length (wg (l.map FQ))
theorem Ew (l:List xm):(wg l).length=l.length* 2:=Dy yr l
theorem Fs (g:H) {l:List E1} (hl:∀b∈l,b.2.length<1125899906842624):GY g (Fq l) (l.map FQ):=by
 refine⟨?_,fun x hx=> ?_⟩
 · unfold Fq
   have:=B5 (n:=2) (k:=l.length) (h:=g) (cs:=wg (l.map FQ)) (by rw[Ew,Qr])
   rw[Qr];exact this
 · obtain⟨b,hb,rfl⟩:=Qy.1 hx
   exact⟨xY g b.2,hl b hb⟩
instance:DecidableEq vv:=fun a b=>decidable_of_iff _ (yW a b)
theorem D7 {v w : AV} {a b : List vh} (hab : a.length = b.length) (hl : a.length < 1125899906842624) (h : H) (ra : wv 9 h v a.length (u9 a)) (rb : wv 9 h w b.length (u9 b)) (ha : ∀ x ∈ a, wM h x ∧ x.2.sc = true) (hb : ∀ x ∈ b, wM h x ∧ x.2.sc = true) : ∀ (q r p p' : List vh), a = p ++ q → b = p' ++ r → p.length = p'.length →
 (∃e',Lp AP.A [0,1,5] AP.f207L0 [(0,v),(1,w),(5,.int .i64 p.length)] h=some (.exit 0,e',h)∧q.map (·.1)=r.map (·.1))∨
 (∃e',Lp AP.A [0,1,5] AP.f207L0 [(0,v),(1,w),(5,.int .i64 p.length)] h=some (.ret,e',h)∧look e' 4=.bool false∧q.map (·.1)≠r.map (·.1))
 | [], r, p, p', hp, hr, hpp => by
   rw[Qv]at hp;subst hp
   have h1:b.length=p'.length+r.length:=by rw[hr];simp
   have hr0:r=[]:=Qw (by omega)
   have ln:=ra.len
   refine .inl ⟨[(0,v),(1,w),(5,.int .i64 a.length),(14,.bool false)],sN ?_,by rw[hr0]⟩
   simp (disch:=omega)only[go_sem,uX,AP.f207L0,ln]
 | x :: q, [], p, p', hp, hr, hpp => by
   exfalso
   have h1:a.length=p.length+(q.length+1):=by rw[hp];simp
   have h2:b.length=p'.length:=by rw[hr];simp
   omega
 | x :: q, y :: r, p, p', hp, hr, hpp => by
   have h1:a.length=p.length+(q.length+1):=by rw[hp];simp
   have hx:a[p.length]?=some x:=by rw[hp];simp
   have hy:b[p.length]?=some y:=by rw[hr,hpp];simp
   have ln:=ra.len
   obtain⟨ad,a1,a2⟩:=ra.EZ
   obtain⟨bd,b1,b2⟩:=rb.EZ
   have a3:=a1 p.length ⟨by omega,by omega⟩
   have b3:=b1 p.length ⟨by omega,by omega⟩
   obtain⟨_,a4⟩:=a2 h (Ext.refl h) p.length x hx
   obtain⟨_,b4⟩:=b2 h (Ext.refl h) p.length y hy
   obtain⟨ox,sx⟩:=ha x (by rw[hp];simp)
   obtain⟨oy,sy⟩:=hb y (by rw[hr];simp)
   have k1:=HU h x.1 y.1 x.2 y.2 sx sy ox oy
   have ih:=D7 hab hl h ra rb ha hb q r (p++[x]) (p'++[y]) (by rw[hp];simp) (by rw[hr];simp) (by simp [hpp])
   have w1:((p++[x]).length:Int)=(p.length:Int)+1:=by simp
   rw[w1]at ih
   rw[Qz,Qz]
   cases hk:zG x.1 y.1 with
   | true =>
     rw[hk]at k1
     have e:=(yW _ _).1 hk
     have step:aK (aQ AP.A) bA AP.f207L0 (ax [(0,v),(1,w),(5,.int .i64 p.length)] [0,1,5]) h=some (.normal,[(0,v),(1,w),(5,.int .i64 ((p.length:Int)+1))],h):=by
      clear ih ra rb a1 a2 b1 b2 ha hb ox oy hp hr e
      generalize uY x.1 x.2=E at *
      generalize uY y.1 y.2=F at *
      simp (disch:=omega)only[go_sem,uX,AP.f207L0,ln,a3,a4,b3,b4,k1]
     rcases ih with ⟨e',r1,r2⟩|⟨e',r1,r2,r3⟩
     · exact .inl ⟨e',sP step r1,by rw[e,r2]⟩
     · exact .inr ⟨e',sP step r1,r2,fun q=>r3 (List.cons.inj q).2⟩
   | false =>
     rw[hk]at k1
     refine .inr ⟨[(4,.bool false)],tk ?_,rfl,fun q=>by
      have:=(yW x.1 y.1).2 (List.cons.inj q).1
      rw[hk]at this;cases this⟩
     clear ih ra rb a1 a2 b1 b2 ha hb ox oy hp hr
     generalize uY x.1 x.2=E at *
     generalize uY y.1 y.2=F at *
     simp (disch:=omega)only[go_sem,uX,AP.f207L0,ln,a3,a4,b3,b4,k1]
theorem Gu (h:H) (v w:AV) (a b:List vh) (hl:a.length<1125899906842624) (ra:wv 9 h v a.length (u9 a)) (rb:wv 9 h w b.length (u9 b)) (ha:∀x∈a,wM h x∧x.2.sc=true) (hb:∀x∈b,wM h x∧x.2.sc=true):aQ AP.A 207 [v,w] h=some (.bool (decide (a.map (·.1)=b.map (·.1))),h):=by
 have xf:Ext h h.dU:=fun i c q=>q
 have ra':=ra.mono fun i c q=>xf i c q
 have rb':=rb.mono fun i c q=>xf i c q
 have l1:=ra'.len
 have l2:=rb'.len
 by_cases c:a.length=b.length
 · have c':(a.length:Int)=b.length:=by omega
   rcases D7 c hl h.dU ra' rb' (fun x hx=>⟨(ha x hx).1.mono xf,(ha x hx).2⟩) (fun x hx=>⟨(hb x hx).1.mono xf,(hb x hx).2⟩) a b [] [] rfl rfl rfl with ⟨e',r1,r2⟩|⟨e',r1,r2,r3⟩
   · have r1':Lp AP.A [0,1,5] AP.f207L0 [(0,v),(1,w),(5,.int .i64 0)] h.dU=some (.exit 0,e',h.dU):=r1
     rw[dt r2]
     refine tB (fn:=AP.f207) (h2:=h.dU) (e:=[(4,.bool true)]) rfl rfl rfl ?_ rfl rfl
     clear ra rb ra' rb' ha hb r1 r2
     simp (disch:=omega)only[go_sem,uX,AP.f207,l1,l2,rH,r1']
   · have r1':Lp AP.A [0,1,5] AP.f207L0 [(0,v),(1,w),(5,.int .i64 0)] h.dU=some (.ret,e',h.dU):=r1
     rw[df r3]
     refine tB (fn:=AP.f207) (h2:=h.dU) (e:=e') (vs:=[.bool false]) rfl rfl rfl ?_ (by simp only[AP.f207,cJ,mP,r2];rfl) rfl
     clear ra rb ra' rb' ha hb r1 r3
     simp (disch:=omega)only[go_sem,uX,AP.f207,l1,l2,rH,r1']
 · have c':¬(a.length:Int)=b.length:=by omega
   have e:a.map (·.1)≠b.map (·.1):=fun q=>c (by have:=QN List.length q;simpa using this)
   rw[df e]
   refine tB (fn:=AP.f207) (h2:=h.dU) (e:=[(4,.bool false)]) rfl rfl rfl ?_ rfl rfl
   clear ra rb ra' rb' ha hb
   simp (disch:=omega)only[go_sem,uX,AP.f207,l1,l2]
def zo (n:Nat):aF:=(.seq (.oD [⟨(some 11),.bin .lss (.t 10) (.t 9),none⟩] [0,1,2,9,10,11]) (.seq (.cond (.t 11) (.skip) (.exit 0) [0,1,2,9,10]) (.seq (.block 1 (.seq (.oD [⟨(some 12),.mv (.t 10),none⟩,⟨(some 7),.mv (.t 12),none⟩] [0,1,2,7,9,10]) (.seq (.iO [0,1,2,3,4,5,6,7,8,9,10,11,12,13,14,15,16,17,18,19,20,21,22,23,24] [⟨(some 13),.mv (.t 2),none⟩,⟨(some 14),.mv (.t 0),none⟩,⟨(some 15),.mv (.t 7),none⟩,⟨(some 16),.nG n (.t 14) (.t 15),none⟩,⟨(some 17),.call (.t 13) [(.t 16)],none⟩,⟨(some 18),.call (.c (.fn 121 [] [])) [(.t 17)],none⟩,⟨(some 19),.not (.t 18),none⟩,⟨(some 20),.mv (.t 19),none⟩,⟨(some 21),.mv (.t 7),(some (20,false))⟩,⟨(some 22),.bin .gtr (.t 21) (.c (.int .i64 0)),(some (20,false))⟩,⟨(some 23),.mv (.t 22),(some (20,false))⟩,⟨(some 24),.mv (.t 2),(some (23,true))⟩,⟨(some 25),.mv (.t 0),(some (23,true))⟩,⟨(some 26),.mv (.t 7),(some (23,true))⟩,⟨(some 27),.bin .sub (.t 26) (.c (.int .i64 1)),(some (23,true))⟩,⟨(some 28),.nG n (.t 25) (.t 27),(some (23,true))⟩,⟨(some 29),.call (.t 24) [(.t 28)],(some (23,true))⟩,⟨(some 30),.mv (.t 2),(some (23,true))⟩,⟨(some 31),.mv (.t 0),(some (23,true))⟩,⟨(some 32),.mv (.t 7),(some (23,true))⟩,⟨(some 33),.nG n (.t 31) (.t 32),(some (23,true))⟩,⟨(some 34),.call (.t 30) [(.t 33)],(some (23,true))⟩,⟨(some 35),.bin .geq (.t 29) (.t 34),(some (23,true))⟩,⟨(some 36),.pick (.t 23) (.t 35) (.c (.bool false)),(some (20,false))⟩,⟨(some 37),.pick (.t 20) (.c (.bool true)) (.t 36),none⟩] [] [0,1,2,9,10,37]) (.cond (.t 37) (.seq (.oD [⟨(some 6),.mv (.c (.bool false)),none⟩] [6]) (.ret)) (.skip) [0,1,2,9,10]))) [0,1,2,9,10]) (.oD [⟨(some 38),.bin .add (.t 10) (.c (.int .i64 1)),none⟩,⟨(some 10),.mv (.t 38),none⟩] [0,1,2,9,10]))))
def BM (n:Nat):aF:=(.seq (.oD [⟨(some 9),.bin .lss (.t 8) (.t 7),none⟩] [0,1,7,8,9]) (.seq (.cond (.t 9) (.skip) (.exit 0) [0,1,7,8]) (.seq (.block 1 (.seq (.oD [⟨(some 10),.mv (.t 8),none⟩,⟨(some 5),.mv (.t 10),none⟩] [0,1,5,7,8]) (.seq (.oD [⟨(some 11),.mv (.t 1),none⟩,⟨(some 12),.mv (.t 0),none⟩,⟨(some 13),.mv (.t 5),none⟩,⟨(some 14),.nG n (.t 12) (.t 13),none⟩,⟨(some 15),.load true n (.t 14),none⟩,⟨(some 16),.call (.t 11) [(.t 15)],none⟩] [0,1,5,7,8,16]) (.cond (.t 16) (.seq (.oD [⟨(some 17),.mv (.t 5),none⟩,⟨(some 4),.mv (.t 17),none⟩] [4]) (.ret)) (.skip) [0,1,7,8]))) [0,1,7,8]) (.oD [⟨(some 18),.bin .add (.t 8) (.c (.int .i64 1)),none⟩,⟨(some 8),.mv (.t 18),none⟩] [0,1,7,8]))))
def Ar (p:Option ByteArray) (s:ByteArray):Bool:=match p with|none=>true|some q=>Op.bytesLess q.toList s.toList
theorem D4 (p:Option ByteArray) (s:ByteArray) (r:List ByteArray):wj p (s::r)=((vO s&&Ar p s)&&wj (some s) r):=by cases p<;>rfl
theorem Bq {v : AV} {k sz : Nat} {least : AV} {ns : List ByteArray} (hn : ns.length < 1125899906842624) (hs : ∀ s ∈ ns, s.size < 1125899906842624) (h : H) (ad : Int → AV) (ha : ∀ i : Int, 0 ≤ i ∧ i < ns.length → fM sz v (.int .i64 i) = some (ad i))
 (hk:∀(i:Nat) (s:ByteArray),ns[i]?=some s→aQ AP.A k [ad i] h=some (.str s,h)):∀(q p:List ByteArray),ns=p++q→
 (∃e',Lp AP.A [0,1,2,9,10] (zo sz) [(0,v),(1,least),(2,.fn k [] []),(9,.int .i64 ns.length),(10,.int .i64 p.length)] h=some (.exit 0,e',h)∧look e' 0=v∧look e' 1=least∧wj p.getLast? q=true)∨
 (∃e',Lp AP.A [0,1,2,9,10] (zo sz) [(0,v),(1,least),(2,.fn k [] []),(9,.int .i64 ns.length),(10,.int .i64 p.length)] h=some (.ret,e',h)∧look e' 6=.bool false∧wj p.getLast? q=false)
 | [], p, hp => by
   rw[Qv]at hp;subst hp
   refine .inl ⟨[(0,v),(1,least),(2,.fn k [] []),(9,.int .i64 ns.length),(10,.int .i64 ns.length),(11,.bool false)],sN ?_,rfl,rfl,rfl⟩
   simp (disch:=omega)only[go_sem,uX,zo]
 | s :: q, p, hp => by
   have hlen:ns.length=p.length+(q.length+1):=by rw[hp];simp
   have hx:ns[p.length]?=some s:=by rw[hp];simp
   have b1:=ha p.length ⟨by omega,by omega⟩
   have b2:=hk p.length s hx
   have k1:=F9 h s (hs s (by rw[hp];simp))
   have ih:=Bq (least:=least) hn hs h ad ha hk q (p++[s]) (by rw[hp];simp)
   have w1:(((p++[s]).length:Nat):Int)=(p.length:Int)+1:=by simp
   rw[w1,List.getLast?_concat]at ih
   rw[D4]
   have step:aK (aQ AP.A) bA (zo sz) (ax [(0,v),(1,least),(2,.fn k [] []),(9,.int .i64 ns.length),(10,.int .i64 p.length)] [0,1,2,9,10]) h=if(vO s&&Ar p.getLast? s)=true then some (.normal,[(0,v),(1,least),(2,.fn k [] []),(9,.int .i64 ns.length),(10,.int .i64 ((p.length:Int)+1))],h)else some (.ret,[(6,.bool false)],h):=by
    cases hl:p.getLast? with
    | none =>
      have hp1:p.length=0:=by rw[List.getLast?_eq_none_iff.1 hl];rfl
      clear ih w1 hp hx
      rw[show Ar none s=true from rfl]
      generalize vO s=B1 at *
      cases B1<;>simp only[Qu,QF,QB,if_true,uo,uO]<;>simp (disch:=omega)only[go_sem,uX,zo,b1,b2,k1,nr]
    | some y =>
      obtain⟨p',rfl⟩:∃p',p=p'++[y]:=List.getLast?_eq_some_iff.1 hl
      have hpl:(p'++[y]).length=p'.length+1:=by simp
      have hy:ns[p'.length]?=some y:=by rw[hp];simp
      have bj:=ha p'.length ⟨by omega,by omega⟩
      have kj:=hk p'.length y hy
      have cmp:bp .geq (.str y) (.str s)=some (.bool (!(Op.bytesLess y.toList s.toList))):=rfl
      have n2:(((p'++[y]).length:Nat):Int)-1=(p'.length:Int):=by rw[hpl];omega
      clear ih w1 hp hx hy
      rw[show Ar (some y) s=Op.bytesLess y.toList s.toList from rfl]
      generalize Op.bytesLess y.toList s.toList=B2 at *
      generalize vO s=B1 at *
      generalize (p'++[y]).length=pl at *
      cases B1<;>cases B2<;>simp only[Qu,QF,Qx,QB,if_true,uo,uO]<;>simp (disch:=omega)only[go_sem,uX,zo,b1,b2,k1,bj,kj,cmp,n2,nr]
   generalize (vO s&&Ar p.getLast? s)=ok at *
   cases ok with
   | true =>
     rw[if_pos rfl]at step
     rw[QB]
     rcases ih with ⟨e',r1,r2,r3,r4⟩|⟨e',r1,r2,r3⟩
     · exact .inl ⟨e',sP step r1,r2,r3,r4⟩
     · exact .inr ⟨e',sP step r1,r2,r3⟩
   | false =>
     rw[if_neg (by decide)]at step
     rw[Qu]
     exact .inr ⟨_,tk step,rfl,rfl⟩
def AF (n:Nat):eW:={np:=3,res:=[.tmp 6],pure:=true,body:=(.seq (.oD [⟨(some 6),.mv (.c (.bool false)),none⟩] [0,1,2]) (.seq (.seq (.oD [⟨(some 8),.mv (.t 0),none⟩,⟨(some 9),.len false (.t 8),none⟩,⟨(some 10),.mv (.c (.int .i64 0)),none⟩] [0,1,2,9,10]) (.block 0 (.loop [0,1,2,9,10] (zo n)) [0,1])) (.seq (.oD [⟨(some 39),.mv (.t 0),none⟩,⟨(some 40),.len false (.t 39),none⟩,⟨(some 41),.mv (.t 1),none⟩,⟨(some 42),.bin .geq (.t 40) (.t 41),none⟩,⟨(some 43),.mv (.t 42),none⟩,⟨(some 44),.mv (.t 0),(some (43,true))⟩,⟨(some 45),.len false (.t 44),(some (43,true))⟩,⟨(some 46),.bin .leq (.t 45) (.c (.int .i64 6)),(some (43,true))⟩,⟨(some 47),.pick (.t 43) (.t 46) (.c (.bool false)),none⟩,⟨(some 6),.mv (.t 47),none⟩] [6]) (.ret))))}
theorem B8 {f sz k:Nat} (hf:AP.A f=some (AF sz)) {v:AV} {least:Int} {ns:List ByteArray} (hn:ns.length<1125899906842624) (hs:∀s∈ns,s.size<1125899906842624) (h:H) (ln:iY false v=some (.int .i64 ns.length)) (ad:Int→AV) (ha:∀i:Int,0≤i∧i<ns.length→fM sz v (.int .i64 i)=some (ad i))
 (hk:∀(i:Nat) (s:ByteArray),ns[i]?=some s→aQ AP.A k [ad i] h.dU=some (.str s,h.dU)):aQ AP.A f [v,.int .i64 least,.fn k [] []] h=some (.bool (wj none ns&&(decide (least≤ns.length)&&decide (ns.length≤6))),h):=by
 rcases Bq (least:=.int .i64 least) hn hs h.dU ad ha hk ns [] rfl with ⟨e',r1,r2,r3,r4⟩|⟨e',r1,r2,r3⟩
 · have r1':Lp AP.A [0,1,2,9,10] (zo sz) [(0,v),(1,.int .i64 least),(2,.fn k [] []),(9,.int .i64 ns.length),(10,.int .i64 0)] h.dU=some (.exit 0,e',h.dU):=r1
   have r4':wj none ns=true:=r4
   rw[r4',QB]
   refine tB (fn:=AF sz) (h2:=h.dU) (e:=[(6,.bool (decide (least≤ns.length)&&decide (ns.length≤6)))]) hf rfl rfl ?_ rfl rfl
   clear ha hk r1 r4 r4'
   by_cases c1:least≤(ns.length:Int)
   · by_cases c2:ns.length≤6<;>simp (disch:=omega)only[go_sem,uX,AF,ln,rH,r1',r2,r3]
   · simp (disch:=omega)only[go_sem,uX,AF,ln,rH,r1',r2,r3]
 · have r1':Lp AP.A [0,1,2,9,10] (zo sz) [(0,v),(1,.int .i64 least),(2,.fn k [] []),(9,.int .i64 ns.length),(10,.int .i64 0)] h.dU=some (.ret,e',h.dU):=r1
   have r4':wj none ns=false:=r3
   rw[r4',Qu]
   refine tB (fn:=AF sz) (h2:=h.dU) (e:=e') (vs:=[.bool false]) hf rfl rfl ?_ (by simp only[AF,cJ,mP,r2];rfl) rfl
   clear ha hk r1 r3 r4'
   simp (disch:=omega)only[go_sem,uX,AF,ln,rH,r1']
theorem CK {v : AV} {k sz n : Nat} {B : Nat → Bool} (hn : n < 1125899906842624) (h : H) (ad : Int → AV) (el : Nat → AV) (ha : ∀ i : Int, 0 ≤ i ∧ i < n → fM sz v (.int .i64 i) = some (ad i)) (hl : ∀ i : Nat, i < n → bS true sz (ad i) h = some (el i))
 (hk:∀i,i<n→aQ AP.A k [el i] h=some (.bool (B i),h)):∀(m i:Nat),i+m=n→
 (∃e',Lp AP.A [0,1,7,8] (BM sz) [(0,v),(1,.fn k [] []),(7,.int .i64 n),(8,.int .i64 i)] h=some (.exit 0,e',h)∧∀j,i≤j→j<n→B j=false)∨
 (∃e',Lp AP.A [0,1,7,8] (BM sz) [(0,v),(1,.fn k [] []),(7,.int .i64 n),(8,.int .i64 i)] h=some (.ret,e',h)∧(∃j:Nat,look e' 4=.int .i64 j∧j<n∧B j=true))
 | 0, i, hi => by
   obtain rfl:i=n:=by omega
   refine .inl ⟨[(0,v),(1,.fn k [] []),(7,.int .i64 i),(8,.int .i64 i),(9,.bool false)],sN ?_,fun j h1 h2=>by omega⟩
   clear ha hl hk
   simp (disch:=omega)only[go_sem,uX,BM]
 | m + 1, i, hi => by
   have b1:=ha i ⟨by omega,by omega⟩
   have b2:=hl i (by omega)
   have k1:=hk i (by omega)
   have ih:=CK hn h ad el ha hl hk m (i+1) (by omega)
   have w1:((i+1:Nat):Int)=(i:Int)+1:=by omega
   rw[w1]at ih
   cases c:B i with
   | true =>
     rw[c]at k1
     refine .inr ⟨[(4,.int .i64 i)],tk ?_,i,rfl,by omega,c⟩
     clear ha hl hk ih
     simp (disch:=omega)only[go_sem,uX,BM,b1,b2,k1,nr]
   | false =>
     rw[c]at k1
     have step:aK (aQ AP.A) bA (BM sz) (ax [(0,v),(1,.fn k [] []),(7,.int .i64 n),(8,.int .i64 i)] [0,1,7,8]) h=some (.normal,[(0,v),(1,.fn k [] []),(7,.int .i64 n),(8,.int .i64 ((i:Int)+1))],h):=by
      clear ha hl hk ih
      simp (disch:=omega)only[go_sem,uX,BM,b1,b2,k1,nr]
     rcases ih with ⟨e',r1,r2⟩|⟨e',r1,r2⟩
     · exact .inl ⟨e',sP step r1,fun j h1 h2=>by
        by_cases q:j=i
        · rw[q];exact c
        · exact r2 j (by omega) h2⟩
     · exact .inr ⟨e',sP step r1,r2⟩
def EJ (n:Nat):eW:={np:=2,res:=[.tmp 4],pure:=true,body:=(.seq (.oD [⟨(some 4),.mv (.c (.int .i64 0)),none⟩] [0,1]) (.seq (.seq (.oD [⟨(some 6),.mv (.t 0),none⟩,⟨(some 7),.len false (.t 6),none⟩,⟨(some 8),.mv (.c (.int .i64 0)),none⟩] [0,1,7,8]) (.block 0 (.loop [0,1,7,8] (BM n)) [])) (.seq (.oD [⟨(some 4),.mv (.c (.int .i64 (-1))),none⟩] [4]) (.ret))))}
def OI (g:Nat):eW:={np:=2,res:=[.tmp 4],pure:=true,body:=(.seq (.oD [⟨(some 4),.mv (.c (.bool false)),none⟩] [0,1]) (.seq (.oD [⟨(some 5),.mv (.t 0),none⟩,⟨(some 6),.mv (.t 1),none⟩,⟨(some 7),.call (.c (.fn g [] [])) [(.t 5),(.t 6)],none⟩,⟨(some 8),.bin .geq (.t 7) (.c (.int .i64 0)),none⟩,⟨(some 4),.mv (.t 8),none⟩] [4]) (.ret)))}
theorem DM {f g sz k n:Nat} (hf:AP.A f=some (OI g)) (hg:AP.A g=some (EJ sz)) {v:AV} {B:Nat→Bool} (hn:n<1125899906842624) (h:H) (ln:iY false v=some (.int .i64 n)) (ad:Int→AV) (el:Nat→AV) (ha:∀i:Int,0≤i∧i<n→fM sz v (.int .i64 i)=some (ad i)) (hl:∀i:Nat,i<n→bS true sz (ad i) h=some (el i))
 (hk:∀(g:H),Ext h g→g.next=h.next→g.floor=g.next→∀i,i<n→aQ AP.A k [el i] g=some (.bool (B i),g)):∃b,aQ AP.A f [v,.fn k [] []] h=some (.bool b,h)∧(b=false↔∀j,j<n→B j=false):=by
 have k1:∃j:Int,aQ AP.A g [v,.fn k [] []] h.dU=some (.int .i64 j,h.dU)∧(j<0↔∀j,j<n→B j=false):=by
  have hl':∀i:Nat,i<n→bS true sz (ad i) h.dU.dU=some (el i):=fun i hi=>by
   have:=hl i hi
   unfold bS at this ⊢
   cases hq:ad i<;>rw[hq]at this<;>first|exact this|cases this
  rcases CK hn h.dU.dU ad el ha hl' (hk h.dU.dU (fun i c q=>q) rfl rfl) n 0 (by omega)with ⟨e',r1,r2⟩|⟨e',r1,j,r2,r3,r4⟩
  · have r1':Lp AP.A [0,1,7,8] (BM sz) [(0,v),(1,.fn k [] []),(7,.int .i64 n),(8,.int .i64 0)] h.dU.dU=some (.exit 0,e',h.dU.dU):=r1
    refine⟨-1,tB (fn:=EJ sz) (h2:=h.dU.dU) (e:=[(4,.int .i64 (-1))]) hg rfl rfl ?_ rfl rfl,by simp only[Int.reduceNeg,Int.reduceLT,true_iff];exact fun j hj=>r2 j (by omega) hj⟩
    clear ha hl hl' hk r1 r2
    simp (disch:=omega)only[go_sem,uX,EJ,ln,rH,r1']
  · have r1':Lp AP.A [0,1,7,8] (BM sz) [(0,v),(1,.fn k [] []),(7,.int .i64 n),(8,.int .i64 0)] h.dU.dU=some (.ret,e',h.dU.dU):=r1
    refine⟨j,tB (fn:=EJ sz) (h2:=h.dU.dU) (e:=e') (vs:=[.int .i64 j]) hg rfl rfl ?_ (by simp only[EJ,cJ,mP,r2];rfl) rfl,⟨fun q=>by omega,fun q=>by rw[q j r3]at r4;cases r4⟩⟩
    clear ha hl hl' hk r1 r2
    simp (disch:=omega)only[go_sem,uX,EJ,ln,rH,r1']
 obtain⟨j,k1,k2⟩:=k1
 refine⟨decide (0≤j),tB (fn:=OI g) (h2:=h.dU) (e:=[(4,.bool (decide (0≤j)))]) hf rfl rfl ?_ rfl rfl,by rw[←k2,decide_eq_false_iff_not];omega⟩
 clear ha hl hk k2 ln
 by_cases c:0≤j<;>simp (disch:=omega)only[go_sem,uX,OI,k1]
def pk:List Nat→Nat
 |[]=>0
 |b::l=>b^^^(pk l* 2^8)
theorem DV (e : vv) : vV e = (vO e.name && (vN e && wF e) && (e.gone || (match wU e.method e.packed e.size with | some t => decide ((wq t : Int) = e.zu) | none => false))) := by
 unfold vV yw
 have hm:wW [e]=(vO e.name&&(vN e&&wF e)):=by simp [wW,xS,z5]
 rw[hm]
 cases (vO e.name&&(vN e&&wF e))with
 |false=>rfl
 | true =>
   rw[if_neg (by decide)]
   cases e.gone with
   |true=>rfl
   | false =>
     rw[if_neg (by decide)]
     cases wU e.method e.packed e.size with
     |none=>rfl
     | some t =>
       dsimp only
       by_cases c:(wq t:Int)=e.zu
       · rw[if_pos c];simp [c]
       · rw[if_neg c];simp [c]
def wT (l:List ByteArray):List AV:=l.map .str
theorem vW (l:List ByteArray):(wT l).length=l.length:=by simp [wT]
theorem Rd.z9 {h:H} {v:AV} {l:List ByteArray} (r:Rd h v (wT l)):∃ad:Int→AV,(∀i:Int,0≤i∧i<l.length→fM 1 v (.int .i64 i)=some (ad i))∧(∀(i:Int) (g:H),0≤i∧i<l.length→jw g (ad i)=some (ad i,g))∧
 ∀g:H,Ext h g→∀(i:Nat) (s:ByteArray),l[i]?=some s→bS false 1 (ad i) g=some (.str s):=by
 have r2:=r.DZ
 rw[vW]at r2
 obtain⟨ad,a1,_,a4,a3⟩:=r2.at_
 refine⟨fun i=>ad i 0,a1,fun i g hi=>a4 i 0 g hi,fun g hg i n hn=> ?_⟩
 have hi:i<l.length:=(uk.1 hn).1
 refine(a3 g hg).1 i 0 _ ⟨by omega,by omega⟩ ?_
 rw[wD,QM,QH]
 simp [wT,hn]
structure vL where
 m:yJ
 vd:AV
 vb:AV
 vf:AV
 vn:AV
 ve:AV
 fs:List xm
 es:List vh
def uQ (x:vL):List AV:=[.int .i64 x.m.kind,.int .i64 x.m.src,.int .i64 x.m.dst,.int .i64 x.m.root,x.vd,x.vb,x.vf,x.vn,x.ve]
structure zW (h:H) (x:vL):Prop where
 rd:Rd h x.vd (ints x.m.vJ)
 rb:Rd h x.vb (ints x.m.vR)
 rf:GY h x.vf x.fs
 hf:x.fs.map (·.1)=x.m.u3
 rn:Rd h x.vn (wT x.m.names)
 re:wv 9 h x.ve x.es.length (u9 x.es)
 he:x.es.map (·.1)=x.m.vF
 ve:∀y∈x.es,wM h y∧y.2.sc=true
 vf:∀y∈x.fs,y.2.sc=true
 sc:x.vd.sc=true∧x.vb.sc=true∧x.vf.sc=true∧x.vn.sc=true∧x.ve.sc=true
 zd:x.m.vJ.length<140737488355328
 zb:x.m.vR.length<140737488355328
 zf:x.m.u3.length<140737488355328
 zn:x.m.names.length<140737488355328
 ze:x.m.vF.length<140737488355328
 zs:(∀s∈x.m.names,s.size<1125899906842624)∧∀b∈x.m.u3,b.1.size<1125899906842624
theorem zW.mono {h g:H} {x:vL} (o:zW h x) (e:Ext h g):zW g x:=
 ⟨o.rd.mono fun i c q=>e i c q,o.rb.mono fun i c q=>e i c q,o.rf.mono e,o.hf,o.rn.mono fun i c q=>e i c q,o.re.mono fun i c q=>e i c q,o.he,fun y hy=>⟨(o.ve y hy).1.mono e,(o.ve y hy).2⟩,o.vf,o.sc,o.zd,o.zb,o.zf,o.zn,o.ze,o.zs⟩
def u5:vL:=⟨⟨0,0,0,0,[],[],[],[],[]⟩,.aO,.aO,.aO,.aO,.aO,[],[]⟩
theorem xV {h:H} {x:vL} (o:zW h x):AV.aB (uQ x)=true:=by
 obtain⟨a,b,c,d,e⟩:=o.sc
 simp [uQ,a,b,c,d,e]
theorem L8 {m:yJ} (h:m.kind=0):xr m=decide (((((m.vJ.length:Int)+m.vR.length)+m.u3.length)+m.names.length)+m.vF.length=0):=by
 rw[xr,h];generalize m.vJ.length=a;generalize m.vR.length=b;generalize m.u3.length=c;generalize m.names.length=d;generalize m.vF.length=e;rw[Bool.eq_iff_iff];simp;omega
theorem L9 {m:yJ} (h:m.kind=1):xr m=(decide (m.root=0)&&decide ((((0+(m.vR.length:Int))+m.u3.length)+m.names.length)+m.vF.length=0)):=by
 rw[xr,h];generalize m.vJ.length=a;generalize m.vR.length=b;generalize m.u3.length=c;generalize m.names.length=d;generalize m.vF.length=e;rw[Bool.eq_iff_iff];simp;omega
theorem Ma {m:yJ} (h:m.kind=2):xr m=(decide (m.root=0)&&decide (((((m.vJ.length:Int)+0)+0)+m.names.length)+m.vF.length=0)):=by
 rw[xr,h];generalize m.vJ.length=a;generalize m.vR.length=b;generalize m.u3.length=c;generalize m.names.length=d;generalize m.vF.length=e;rw[Bool.eq_iff_iff];simp;omega
theorem lean_3 {m:yJ} (h:m.kind=3):xr m=(decide (m.root=0)&&decide (((((m.vJ.length:Int)+m.vR.length)+m.u3.length)+0)+m.vF.length=0)):=by
 rw[xr,h];generalize m.vJ.length=a;generalize m.vR.length=b;generalize m.u3.length=c;generalize m.names.length=d;generalize m.vF.length=e;rw[Bool.eq_iff_iff];simp;omega
theorem Mb {m:yJ} (h:m.kind=4):xr m=(decide (m.root=0)&&decide (((((m.vJ.length:Int)+m.vR.length)+m.u3.length)+m.names.length)+0=0)):=by
 rw[xr,h];generalize m.vJ.length=a;generalize m.vR.length=b;generalize m.u3.length=c;generalize m.names.length=d;generalize m.vF.length=e;rw[Bool.eq_iff_iff];simp;omega
theorem C7 : ∀ (l : List vv) (p : Option vv), (xS p l && l.all vV) = (wj (p.map (·.name)) (l.map (·.name)) && l.all vV)
 |[],_=>rfl
 | e :: l, p => by
   have ih:=C7 l (some e)
   rw[Qz,D4,xS,List.all_cons]
   cases hm:vV e with
   |false=>simp
   | true =>
     have hk:vN e=true∧wF e=true:=by
      rw[DV]at hm
      simp only[On,uu]at hm
      exact hm.1.2
     have ek:x9 p e=(vO e.name&&Ar (p.map (·.name)) e.name):=by
      unfold x9
      rw[hk.1,hk.2]
      cases p<;>simp [Ar]
     rw[ek,QB,Bool.and_assoc,ih];simp only[Bool.and_assoc];rfl
theorem Ip {h:H} {v:AV} {l:List xm} (r:GY h v l):∃ad:Int→AV,(∀i:Int,0≤i∧i<l.length→fM 2 v (.int .i64 i)=some (ad i))∧(∀(i:Nat) (x:xm),l[i]?=some x→bS true 2 (ad i) h=some (.agg (Hg x))∧aQ AP.A 264 [ad i] h=some (.str x.1.1,h)):=by
 obtain⟨ad,a1,a2,a4,a3⟩:=r.rd.at_
 refine⟨fun i=>ad i 0,a1,fun i x hx=> ?_⟩
 have hi:i<l.length:=(uk.1 hx).1
 have hI:(0:Int)≤(i:Int)∧(i:Int)<l.length:=⟨by omega,by omega⟩
 have f:=a2 i 0 0 hI
 rw[QH]at f
 have n:=a4 i 0 h hI
 have l0:=(a3 h fun _ _ q=>q).1 i 0 (.str x.1.1) hI (by
  rw[wD,show wg l=l.flatMap Hg from rfl,yg yr hx (by omega)];rfl)
 refine⟨?_,ta (fn:=AP.f264) (h2:=h) (e:=[(2,.str x.1.1)]) (vs:=[.str x.1.1]) rfl rfl rfl ?_ rfl⟩
 · rw[(a3 h fun _ _ q=>q).2 _ hI,wD,show wg l=l.flatMap Hg from rfl,BK yr hx]
 · clear a1 a2 a3 a4
   simp (disch:=omega)only[go_sem,uX,AP.f264,n,f,l0]
theorem Ot {h:H} {v:AV} {l:List ByteArray} (r:Rd h v (wT l)):∃ad:Int→AV,(∀i:Int,0≤i∧i<l.length→fM 1 v (.int .i64 i)=some (ad i))∧∀(i:Nat) (s:ByteArray),l[i]?=some s→aQ AP.A 267 [ad i] h=some (.str s,h):=by
 obtain⟨ad,a1,a4,a3⟩:=r.z9
 refine⟨ad,a1,fun i s hs=> ?_⟩
 have hi:i<l.length:=(uk.1 hs).1
 have n:=a4 i h ⟨by omega,by omega⟩
 have l0:=a3 h (Ext.refl h) i s hs
 refine ta (fn:=AP.f267) (h2:=h) (e:=[(2,.str s)]) (vs:=[.str s]) rfl rfl rfl ?_ rfl
 clear a1 a3 a4
 simp (disch:=omega)only[go_sem,uX,AP.f267,n,l0]
theorem Iq {h:H} {v:AV} {l:List vh} (r:wv 9 h v l.length (u9 l)):∃ad:Int→AV,(∀i:Int,0≤i∧i<l.length→fM 9 v (.int .i64 i)=some (ad i))∧(∀(i:Nat) (x:vh),l[i]?=some x→bS true 9 (ad i) h=some (.agg (uY x.1 x.2))∧aQ AP.A 270 [ad i] h=some (.str x.1.name,h)):=by
 obtain⟨ad,a1,a2⟩:=r.EZ
 refine⟨fun i=>ad i 0,a1,fun i x hx=> ?_⟩
 obtain⟨pe,ld⟩:=a2 h (Ext.refl h) i x hx
 obtain⟨q,f1,f2⟩:=pe.sV
 have n:=pe.nil
 have l0:=f2 h (Ext.refl h) 0 _ rfl
 refine⟨ld,ta (fn:=AP.f270) (h2:=h) (e:=[(2,.str x.1.name)]) (vs:=[.str x.1.name]) rfl rfl rfl ?_ rfl⟩
 clear a1 a2 pe f2
 simp (disch:=omega)only[go_sem,uX,AP.f270,n,f1,l0]
theorem HR (h:H) {x:vL} (o:zW h x):aQ AP.A 263 [x.vf,.int .i64 0,.fn 264 [] []] h=some (.bool (wj none (x.m.u3.map (·.1))&&decide (x.m.u3.length≤6)),h):=by
 obtain⟨ad,a1,a2⟩:=Ip (o.mono (g:=h.dU) fun i c q=>q).rf
 have e:(x.m.u3.map (·.1)).length=x.fs.length:=by rw[←o.hf];simp
 have z:=o.zf
 have e2:x.m.u3.length=x.fs.length:=by rw[←o.hf];simp
 have:=B8 (f:=263) (sz:=2) (k:=264) rfl (v:=x.vf) (least:=0) (ns:=x.m.u3.map (·.1)) (by omega) (fun s hs=>by obtain⟨b,hb,rfl⟩:=Qy.1 hs;exact o.zs.2 b hb) h (by rw[e];exact o.rf.rd.len) ad (fun i hi=>a1 i (by rw[e]at hi;exact hi)) (fun i s hs=>by
  rw[←o.hf,List.map_map,uC]at hs
  cases hx:x.fs[i]? with
  |none=>rw[hx]at hs;cases hs
  |some y=>rw[hx]at hs;obtain rfl:=ue hs;exact(a2 i y hx).2)
 rw[this,e,e2,dt (by omega),QB]
theorem HT (h:H) {x:vL} (o:zW h x):aQ AP.A 266 [x.vn,.int .i64 1,.fn 267 [] []] h=some (.bool (wj none x.m.names&&(decide (1≤x.m.names.length)&&decide (x.m.names.length≤6))),h):=by
 obtain⟨ad,a1,a2⟩:=Ot (o.mono (g:=h.dU) fun i c q=>q).rn
 have z:=o.zn
 have ln:=o.rn.DZ.len
 rw[vW]at ln
 have:=B8 (f:=266) (sz:=1) (k:=267) rfl (v:=x.vn) (least:=1) (ns:=x.m.names) (by omega) o.zs.1 h ln ad a1 a2
 rw[this]
 congr 5
 rw[decide_eq_decide];omega
theorem HS (h:H) {x:vL} (o:zW h x):aQ AP.A 269 [x.ve,.int .i64 1,.fn 270 [] []] h=some (.bool (wj none (x.m.vF.map (·.name))&&(decide (1≤x.m.vF.length)&&decide (x.m.vF.length≤6))),h):=by
 obtain⟨ad,a1,a2⟩:=Iq (o.mono (g:=h.dU) fun i c q=>q).re
 have e2:x.m.vF.length=x.es.length:=by rw[←o.he];simp
 have e:(x.m.vF.map (·.name)).length=x.es.length:=by simp [e2]
 have z:=o.ze
 have:=B8 (f:=269) (sz:=9) (k:=270) rfl (v:=x.ve) (least:=1) (ns:=x.m.vF.map (·.name)) (by omega) (fun s hs=>by
  obtain⟨b,hb,rfl⟩:=Qy.1 hs
  rw[←o.he]at hb
  obtain⟨y,hy,rfl⟩:=Qy.1 hb
  exact(o.ve y hy).1.nl) h (by rw[e];exact o.re.len) ad (fun i hi=>a1 i (by rw[e]at hi;exact hi)) (fun i s hs=>by
  rw[←o.he,List.map_map,uC]at hs
  cases hx:x.es[i]? with
  |none=>rw[hx]at hs;cases hs
  |some y=>rw[hx]at hs;obtain rfl:=ue hs;exact(a2 i y hx).2)
 rw[this,e,e2]
 congr 5
 rw[decide_eq_decide];omega
theorem Fl (h:H) (s:ByteArray) (v:AV) (l:List Int) (hv:v.sc=true) (rd:Rd h v (ints l)) (hl:l.length<1125899906842624):aQ AP.A 262 [.agg [.str s,v]] h=some (.bool (!w8 l),h):=by
 obtain⟨h1,eh1⟩:∃g,g=h.dU.alloc [.str s,v]:=⟨_,rfl⟩
 have x1:Ext h h1:=fun i c q=>by rw[eh1];exact((Ext.refl h.dU).alloc _) i c q
 have g1:h1.get h.next=some [.str s,v]:=by rw[eh1];exact uW rfl
 have n0:h.dU.next=h.next:=rfl
 have k1:=Ei h1 v l (rd.mono fun i c q=>x1 i c q) hl
 refine tB (fn:=AP.f262) (h2:=h1) (e:=[(2,.bool (!w8 l))]) rfl rfl rfl ?_ rfl rfl
 clear rd x1
 simp (disch:=omega)only[go_sem,uX,AP.f262,hv,n0,←eh1,g1,k1]
theorem Hm (h : H) {x : vL} (o : zW h x) : aQ AP.A 265 [x.vf, .fn 262 [] []] h = some (.bool (!x.m.u3.all fun b => w8 b.2), h) := by
 obtain⟨ad,a1,a2⟩:=Ip o.rf
 have z:=o.zf
 have e2:x.m.u3.length=x.fs.length:=by rw[←o.hf];simp
 obtain⟨b,k1,k2⟩:=DM (f:=265) (g:=299) (sz:=2) (k:=262) (n:=x.fs.length) (B:=fun i=>match x.fs[i]? with|some y=> !w8 y.1.2|none=>false) rfl rfl (v:=x.vf) (by omega) h o.rf.rd.len ad (fun i=>match x.fs[i]? with|some y=>.agg (Hg y)|none=>.bot) a1 (fun i hi=>by
  obtain⟨y,hy⟩:∃y,x.fs[i]?=some y:=⟨x.fs[i],by simp⟩
  rw[hy];exact(a2 i y hy).1) (fun g hg _ _ i hi=>by
  obtain⟨y,hy⟩:∃y,x.fs[i]?=some y:=⟨x.fs[i],by simp⟩
  have hm:=ux hy
  rw[hy]
  obtain⟨r1,r2⟩:=o.rf.vec y hm
  exact Fl g y.1.1 y.2 y.1.2 (o.vf y hm) (r1.mono fun i c q=>hg i c q) r2)
 rw[k1]
 congr 3
 cases hb:b with
 | false =>
   have:=k2.1 hb
   have q:(x.m.u3.all fun b=>w8 b.2)=true:=by
    rw[QE]
    intro c hc
    rw[←o.hf]at hc
    obtain⟨y,hy,rfl⟩:=Qy.1 hc
    obtain⟨i,hi,e⟩:=List.mem_iff_getElem.1 hy
    have:=this i hi
    rw[QD hi,e]at this
    simpa using this
   rw[q];rfl
 | true =>
   cases q:(x.m.u3.all fun b=>w8 b.2)with
   |false=>rfl
   | true =>
     have:b=false:=k2.2 fun j hj=>by
      rw[QD hj]
      rw[QE]at q
      have:=q (x.fs[j]).1 (by rw[←o.hf];exact Qy.2 ⟨_,List.getElem_mem hj,rfl⟩)
      simpa using this
     rw[this]at hb;cases hb
theorem Fm (h:H) (hf:h.floor≤h.next) (e:vv) (v:AV) (hv:v.sc=true) (ok:wM h (e,v)):aQ AP.A 268 [.agg (uY e v)] h=some (.bool (!vV e),h):=by
 obtain⟨E,hE⟩:∃E,E=uY e v:=⟨_,rfl⟩
 have lE:E.length=9:=by rw[hE];rfl
 have cE:AV.aB E=true:=by rw[hE];exact wY hv
 have rE:gY true 9 E 0=some (.agg E):=by rw[hE];rfl
 obtain⟨h1,eh1⟩:∃g,g=h.dU.alloc E:=⟨_,rfl⟩
 have x1:Ext h h1:=fun i c q=>by rw[eh1];exact((Ext.refl h.dU).alloc _) i c q
 have g1:h1.get h.next=some E:=by rw[eh1];exact uW rfl
 have n0:h.dU.next=h.next:=rfl
 have k1:=Dw h1 (by rw[eh1];simp) e v hv (ok.mono x1)
 rw[←hE]at k1 ⊢
 refine tB (fn:=AP.f268) (h2:=h1) (e:=[(2,.bool (!vV e))]) rfl rfl rfl ?_ rfl rfl
 clear ok x1 hE
 simp (disch:=omega)only[go_sem,uX,AP.f268,lE,cE,n0,←eh1,g1,rE,k1]
theorem Hn (h : H) {x : vL} (o : zW h x) : aQ AP.A 187 [x.ve, .fn 268 [] []] h = some (.bool (!x.m.vF.all vV), h) := by
 obtain⟨ad,a1,a2⟩:=Iq o.re
 have z:=o.ze
 have e2:x.m.vF.length=x.es.length:=by rw[←o.he];simp
 obtain⟨b,k1,k2⟩:=DM (f:=187) (g:=191) (sz:=9) (k:=268) (n:=x.es.length) (B:=fun i=>match x.es[i]? with|some y=> !vV y.1|none=>false) rfl rfl (v:=x.ve) (by omega) h o.re.len ad (fun i=>match x.es[i]? with|some y=>.agg (uY y.1 y.2)|none=>.bot) a1 (fun i hi=>by
  obtain⟨y,hy⟩:∃y,x.es[i]?=some y:=⟨x.es[i],by simp⟩
  rw[hy];exact(a2 i y hy).1) (fun g hg _ hf i hi=>by
  obtain⟨y,hy⟩:∃y,x.es[i]?=some y:=⟨x.es[i],by simp⟩
  have hm:=ux hy
  rw[hy]
  exact Fm g (by omega) y.1 y.2 (o.ve y hm).2 ((o.ve y hm).1.mono hg))
 rw[k1]
 congr 3
 cases hb:b with
 | false =>
   have:=k2.1 hb
   have q:(x.m.vF.all vV)=true:=by
    rw[QE]
    intro c hc
    rw[←o.he]at hc
    obtain⟨y,hy,rfl⟩:=Qy.1 hc
    obtain⟨i,hi,e⟩:=List.mem_iff_getElem.1 hy
    have:=this i hi
    rw[QD hi,e]at this
    simpa using this
   rw[q];rfl
 | true =>
   cases q:(x.m.vF.all vV)with
   |false=>rfl
   | true =>
     have:b=false:=k2.2 fun j hj=>by
      rw[QD hj]
      rw[QE]at q
      have:=q (x.es[j]).1 (by rw[←o.he];exact Qy.2 ⟨_,List.getElem_mem hj,rfl⟩)
      simpa using this
     rw[this]at hb;cases hb
def vq (s:ByteArray):List vv→Nat×Bool
 |[]=>(0,false)
 |e::r=>if Op.bytesLess e.name.toList s.toList then((vq s r).1+1,(vq s r).2)else(0,e.name.toList==s.toList)
def Gh (bs:List Nat):List Nat:=Gf bs 0 []
structure Wr (h:H) (w:Nat) (bs:List Nat) (ov:AV):Prop where
 get:h.get w=some [ov,.int .i64 (bs.length:Nat)]
 own:vr 1 h ov (Gh bs).length (yt (Gh bs))
 fl:h.floor≤w
 Qh:h.floor≤h.next
 ne:ov.id?≠some w
 Qg:PN (Gh bs)
structure MI (h:H) (w:Nat) (ov:AV) (h':H) (ov':AV):Prop where
 floor:h'.floor=h.floor
 next:h.next≤h'.next
 vI:∀i,i<h.next→i≠w→ov.id?≠some i→h'.get i=h.get i
 ids:∀j,ov'.id?=some j→ov.id?=some j∨h.next≤j
theorem MI.refl (h:H) (w:Nat) (ov:AV):MI h w ov h ov:=⟨rfl,ur _,fun _ _ _ _=>rfl,fun _ h=>.inl h⟩
theorem MI.trans {h1 h2 h3:H} {w:Nat} {o1 o2 o3:AV} (a:MI h1 w o1 h2 o2) (b:MI h2 w o2 h3 o3):MI h1 w o1 h3 o3:=
 ⟨by rw [b.floor, a.floor], uL a.next b.next, fun i h hw ho => by
   rw[b.vI i (by have:=a.next;omega) hw (fun q=>by rcases a.ids i q with q|q;exact ho q;omega),a.vI i h hw ho],
  fun j h=>by
   rcases b.ids j h with q|q
   · exact a.ids j q
   · exact .inr (uL a.next q)⟩
theorem vr.hi {h:H} {w:AV} {k n:Nat} {cs:List AV} (o:vr n h w k cs) (hn:0<n) {m:Nat} (hm:m≤k):∃u,rB h n w none (some (.int .i64 m)) none=some u∧aR h n u=some (m,cs.take (m* n))∧u.sc=true:=by
 obtain⟨l,⟨rfl,rfl⟩|⟨id,rfl,hg,hf,hk⟩⟩:=o
 · obtain rfl:m=0:=by omega
   obtain rfl:cs=[]:=Qw (by omega)
   exact⟨.aO,rfl,by simp [aR],rfl⟩
 · have d:(cs.length-0)/n=k:=by rw[l,Nat.sub_zero,Nat.mul_div_cancel _ hn]
   refine⟨.aD id 0 m n, ?_, ?_,rfl⟩
   · have:=Ow (h:=h) (n:=n) (p:=id) (o:=0) (k:=k) (m:=m) hg hn (by omega) ⟨by omega,by rw[d];simpa using hm⟩
     rw[this];rfl
   · simp only[aR,if_true,hg,um,uy,Qs]
     rw[if_pos (by rw[l];exact uw _ hm)]
theorem vr.lo {h : H} {w : AV} {k n : Nat} {cs : List AV} (o : vr n h w k cs) (hn : 0 < n) {m : Nat} (hm : m ≤ k) : ∃ u, rB h n w (some (.int .i64 m)) none none = some u ∧ aR h n u = some (k - m, cs.drop (m * n)) ∧ u.sc = true := by
 obtain⟨l,⟨rfl,rfl⟩|⟨id,rfl,hg,hf,hk⟩⟩:=o
 · obtain rfl:m=0:=by omega
   obtain rfl:cs=[]:=Qw (by omega)
   exact⟨.aO,rfl,by simp [aR],rfl⟩
 · have d:cs.length/n=k:=by rw[l,Nat.mul_div_cancel _ hn]
   have mk:=uw n hm
   refine⟨.aD id (0+m* n) (k-m) n, ?_, ?_,rfl⟩
   · simp only[rB,hn,and_self,if_true,hg,um,aA,Nat.sub_zero,d]
     rw[if_pos ⟨by omega,ur _⟩]
     have h3:j7 (.int .i64 m) k=some m:=by
      simp only[j7,ni,um]
      rw[if_pos]
      · rfl
      · omega
     simp [h3]
   · simp only[aR,if_true,hg,um,uy]
     have e:m* n+(k-m)* n=k* n:=by rw[←uJ];congr 1;omega
     rw[if_pos (by omega)]
     rw[uI]
     rw[List.length_drop];omega
def ML (e:vv):vh:=(e,xK e.vec)
def Hx (L:List vv):AV:=Eb 9 L.length (u9 (L.map ML))
theorem Hz (L:List vv):(Hx L).sc=true:=by unfold Hx Eb;split<;>rfl
theorem Hy (g:H) (L:List vv):wv 9 g (Hx L) (L.map ML).length (u9 (L.map ML)):=by
 have:=B5 (n:=9) (k:=L.length) (h:=g) (cs:=u9 (L.map ML)) (by rw[EE,Qr])
 rw[Qr];exact this
theorem yB:∀{a b c:List UInt8},Op.bytesLess a b=true→Op.bytesLess b c=true→Op.bytesLess a c=true
 |_,[],_,h,_=>by simp [Op.bytesLess]at h
 |_,_::_,[],_,h=>by simp [Op.bytesLess]at h
 |[],y::b,z::c,_,_=>rfl
 | x :: a, y :: b, z :: c, h1, h2 => by
   simp only[Op.bytesLess,uG,Qt,uu,beq_iff_eq]at h1 h2 ⊢
   rcases h1 with h1|⟨rfl,h1⟩
   · rcases h2 with h2|⟨rfl,h2⟩
     · exact .inl (UInt8.lt_trans h1 h2)
     · exact .inl h1
   · rcases h2 with h2|⟨rfl,h2⟩
     · exact .inl h2
     · exact .inr ⟨rfl,yB h1 h2⟩
def MQ (l:List vv):Prop:=∀(i j:Nat) (x y:vv),i<j→l[i]?=some x→l[j]?=some y→Op.bytesLess x.name.toList y.name.toList=true
theorem C6 : ∀ {l : List vv} {p : vv}, xS (some p) l = true → (∀ x ∈ l, Op.bytesLess p.name.toList x.name.toList = true) ∧ MQ l
 |[],p,_=>⟨fun x h=>(by cases h),fun i j x y _ h _=>(by simp at h)⟩
 | e :: l, p, h => by
   rw[xS,uu]at h
   obtain⟨i1,i2⟩:=C6 h.2
   have h1:Op.bytesLess p.name.toList e.name.toList=true:=by
    have:=h.1
    unfold x9 at this
    simp only[uu]at this
    exact this.2.1
   refine⟨fun x hx=> ?_,fun i j x y hij hx hy=> ?_⟩
   · rcases uK.1 hx with rfl|hx
     · exact h1
     · exact yB h1 (i1 x hx)
   · match i,j,hij with
     | 0, j + 1, _ =>
       simp only[List.getElem?_cons_zero,uh]at hx
       subst hx
       exact i1 y (ux (by simpa using hy))
     |i+1,j+1,hij=>exact i2 i j x y (by omega) (by simpa using hx) (by simpa using hy)
theorem Gs {l:List vv} (h:wW l=true):MQ l:=by
 unfold wW at h
 rw[uu]at h
 match l,h.1 with
 |[],_=>exact fun i j x y _ h _=>by simp at h
 | e :: l, h1 =>
   rw[xS,uu]at h1
   obtain⟨i1,i2⟩:=C6 h1.2
   intro i j x y hij hx hy
   match i,j,hij with
   | 0, j + 1, _ =>
     simp only[List.getElem?_cons_zero,uh]at hx
     subst hx
     exact i1 y (ux (by simpa using hy))
   |i+1,j+1,hij=>exact i2 i j x y (by omega) (by simpa using hx) (by simpa using hy)
theorem CZ (s:ByteArray):∀(l:List vv) (i:Nat),i≤l.length→(∀(k:Nat) (x:vv),k<i→l[k]?=some x→Op.bytesLess x.name.toList s.toList=true)→(∀x:vv,l[i]?=some x→Op.bytesLess x.name.toList s.toList=false)→
 vq s l=(i,match l[i]? with|some x=>x.name.toList==s.toList|none=>false)
 | [], i, hi, _, _ => by
   have:i=0:=by simpa using hi
   subst this;rfl
 | e :: l, 0, _, _, h2 => by
   have:=h2 e rfl
   rw[vq,this,if_neg (by decide)];rfl
 | e :: l, i + 1, hi, h1, h2 => by
   have he:=h1 0 e (by omega) rfl
   rw[vq,he,if_pos rfl,CZ s l i (by simpa using hi) (fun k x hk hx=>h1 (k+1) x (by omega) (by simpa using hx)) (fun x hx=>h2 x (by simpa using hx))]
   simp
theorem Mv (h:H) (a b:ByteArray):aQ AP.A 314 [.str a,.str b] h=some (.int .i64 (if Op.bytesLess a.toList b.toList then-1 else if a.toList==b.toList then 0 else 1),h):=by
 have n1:∀(g:H) (x:ByteArray),aQ AP.A 315 [.str x] g=some (.bool false,g):=fun g x=>by
  have:bp .neq (.str x) (.str x)=some (.bool false):=by rw[z8];simp
  refine tB (fn:=AP.f315) (h2:=g.dU) (e:=[(2,.bool false)]) rfl rfl rfl ?_ rfl rfl
  simp (disch:=omega)only[go_sem,uX,AP.f315,this]
 have c1:bp .lss (.str a) (.str b)=some (.bool (Op.bytesLess a.toList b.toList)):=rfl
 have c2:bp .gtr (.str a) (.str b)=some (.bool (!(Op.bytesLess a.toList b.toList||a.toList==b.toList))):=rfl
 refine tB (fn:=AP.f314) (h2:=h.dU) (e:=[(4,.int .i64 (if Op.bytesLess a.toList b.toList then-1 else if a.toList==b.toList then 0 else 1))]) rfl rfl rfl ?_ rfl rfl
 generalize Op.bytesLess a.toList b.toList=B1 at *
 generalize (a.toList==b.toList)=B2 at *
 cases B1<;>cases B2<;>simp only[uo,if_true,uO]<;>simp (disch:=omega)only[go_sem,uX,AP.f314,n1,c1,c2]
theorem Ga (h:H) (e:vv) (v:AV) (hv:v.sc=true) (s:ByteArray):aQ AP.A 313 [.agg (uY e v),.str s] h=some (.int .i64 (if Op.bytesLess e.name.toList s.toList then-1 else if e.name.toList==s.toList then 0 else 1),h):=by
 obtain⟨E,hE⟩:∃E,E=uY e v:=⟨_,rfl⟩
 have lE:E.length=9:=by rw[hE];rfl
 have cE:AV.aB E=true:=by rw[hE];exact wY hv
 have e0:E[0]?=some (.str e.name):=by rw[hE];rfl
 obtain⟨h1,eh1⟩:∃g,g=h.dU.alloc E:=⟨_,rfl⟩
 have g1:h1.get h.next=some E:=by rw[eh1];exact uW rfl
 have n0:h.dU.next=h.next:=rfl
 have k1:=Mv h1 e.name s
 rw[←hE]
 generalize (if Op.bytesLess e.name.toList s.toList then(-1:Int)else if e.name.toList==s.toList then 0 else 1)=V at *
 refine tB (fn:=AP.f313) (h2:=h1) (e:=[(4,.int .i64 V)]) rfl rfl rfl ?_ rfl rfl
 clear hE
 simp (disch:=omega)only[go_sem,uX,AP.f313,lE,cE,n0,←eh1,g1,e0,k1]
theorem Hh {v : AV} {l : List vh} (hl : l.length ≤ 6) (h : H) (rd : wv 9 h v l.length (u9 l)) (hv : ∀ x ∈ l, x.2.sc = true) (s : ByteArray) (ris : MQ (l.map (·.1))) : ∀ (m i j : Nat), j - i ≤ m → i ≤ j → j ≤ l.length →
 (∀(k:Nat) (x:vv),k<i→(l.map (·.1))[k]?=some x→Op.bytesLess x.name.toList s.toList=true)→(∀(k:Nat) (x:vv),j≤k→(l.map (·.1))[k]?=some x→Op.bytesLess x.name.toList s.toList=false)→
 ∃ e' k, Lp AP.A [0, 1, 2, 8, 9, 10] AP.f312L0 [(0, v), (1, .str s), (2, .fn 313 [] []), (8, .int .i64 l.length), (9, .int .i64 i), (10, .int .i64 j)] h = some (.exit 0, e', h) ∧ look e' 0 = v ∧ look e' 1 = .str s ∧ look e' 2 = .fn 313 [] [] ∧ look e' 8 = .int .i64 l.length ∧ look e' 9 = .int .i64 (k : Nat) ∧ k ≤ l.length ∧
   (∀(q:Nat) (x:vv),q<k→(l.map (·.1))[q]?=some x→Op.bytesLess x.name.toList s.toList=true)∧(∀x:vv,(l.map (·.1))[k]?=some x→Op.bytesLess x.name.toList s.toList=false):=by
 intro m
 induction m with
 | zero =>
   intro i j hm hij hj h1 h2
   obtain rfl:i=j:=by omega
   refine⟨[(0,v),(1,.str s),(2,.fn 313 [] []),(8,.int .i64 l.length),(9,.int .i64 i),(10,.int .i64 i),(17,.bool false)],i,sN ?_,rfl,rfl,rfl,rfl,rfl,hj,h1,fun x hx=>h2 i x (ur _) hx⟩
   clear h1 h2 ris hv rd
   simp (disch:=omega)only[go_sem,uX,AP.f312L0]
 | succ m ih =>
   intro i j hm hij hj h1 h2
   by_cases c:i=j
   · subst c
     exact ih i i (by omega) (ur _) hj h1 h2
   have lt:i<j:=by omega
   obtain⟨q,hq⟩:∃q,q=(i+j)/2:=⟨_,rfl⟩
   obtain⟨x,hx⟩:∃x,l[q]?=some x:=⟨l[q]'(by omega),by simp⟩
   have hx':(l.map (·.1))[q]?=some x.1:=by rw[uC,hx];rfl
   obtain⟨ad,a1,a2⟩:=rd.EZ
   have b1:=a1 q ⟨by omega,by omega⟩
   have b2:=(a2 h (Ext.refl h) q x hx).2
   have k1:=Ga h x.1 x.2 (hv x (ux hx)) s
   have w1:IntKind.wrap .u64 ((i:Int)+j)=((i+j:Nat):Int):=by simp [IntKind.wrap,IntKind.bits,IntKind.signed];omega
   have w2:oQ .shr .u64 ((i+j:Nat):Int) 1=some (.int .u64 (q:Nat)):=by
    unfold oQ
    rw[if_neg (by decide),hq]
    simp [IntKind.bits,Int.fdiv_eq_ediv_of_nonneg]
   have w3:IntKind.wrap .i64 (q:Int)=q:=wi (by omega)
   have w4:((q+1:Nat):Int)=(q:Int)+1:=by omega
   by_cases cl:Op.bytesLess x.1.name.toList s.toList=true
   · rw[if_pos cl]at k1
     obtain⟨e',k,r1,r2⟩:=ih (q+1) j (by omega) (by omega) hj (fun t y ht hy=>by
      by_cases ct:t=q
      · subst ct;rw[hx']at hy;obtain rfl:=ue hy;exact cl
      · exact yB (ris t q y x.1 (by omega) hy hx') cl) h2
     rw[w4]at r1
     refine⟨e',k,sP ?_ r1,r2⟩
     clear h1 h2 ris hv rd r1 r2 a1 a2 hx hx' ih
     simp (disch:=omega)only[go_sem,uX,AP.f312L0,w1,w2,w3,b1,b2,k1,nr]
   · have cl':Op.bytesLess x.1.name.toList s.toList=false:=by simpa using cl
     rw[if_neg cl]at k1
     obtain⟨e',k,r1,r2⟩:=ih i q (by omega) (by omega) (by omega) h1 (fun t y ht hy=>by
      by_cases ct:t=q
      · subst ct;rw[hx']at hy;obtain rfl:=ue hy;exact cl'
      · cases cy:Op.bytesLess y.name.toList s.toList with
        |false=>rfl
        |true=>exact absurd (yB (ris q t x.1 y (by omega) hx' hy) cy) cl)
     refine⟨e',k,sP ?_ r1,r2⟩
     have k0:(if(x.1.name.toList==s.toList)=true then(0:Int)else 1)=0∨(if(x.1.name.toList==s.toList)=true then(0:Int)else 1)=1:=by split<;>simp
     generalize (if(x.1.name.toList==s.toList)=true then(0:Int)else 1)=V at *
     have k2:¬V<0:=by omega
     clear h1 h2 ris hv rd r1 r2 a1 a2 hx hx' ih k0
     simp (disch:=omega)only[go_sem,uX,AP.f312L0,w1,w2,w3,b1,b2,k1,nr,df k2]
theorem MX (h:H) (v:AV) (l:List vh) (hl:l.length≤6) (rd:wv 9 h v l.length (u9 l)) (hv:∀x∈l,x.2.sc=true) (s:ByteArray) (ris:MQ (l.map (·.1))):aQ AP.A 312 [v,.str s,.fn 313 [] []] h=some (.bO [.int .i64 (vq s (l.map (·.1))).1,.bool (vq s (l.map (·.1))).2],h):=by
 have rdf:wv 9 h.dU v l.length (u9 l):=rd.mono fun i c q=>q
 have ln:=rdf.len
 obtain⟨e',k,r1,r2,r3,r4,r5,r6,r7,r8,r9⟩:=Hh hl h.dU rdf hv s ris l.length 0 l.length (by omega) (by omega) (ur _) (fun k x hk=>by omega) (fun k x hk hx=>by
  rw[List.getElem?_eq_none (by simpa using hk)]at hx;cases hx)
 have r1':Lp AP.A [0,1,2,8,9,10] AP.f312L0 [(0,v),(1,.str s),(2,.fn 313 [] []),(8,.int .i64 l.length),(9,.int .i64 0),(10,.int .i64 l.length)] h.dU=some (.exit 0,e',h.dU):=r1
 rw[CZ s _ k (by simpa using r7) r8 r9]
 by_cases c:k<l.length
 · obtain⟨x,hx⟩:∃x,l[k]?=some x:=⟨l[k],by simp⟩
   have hx':(l.map (·.1))[k]?=some x.1:=by rw[uC,hx];rfl
   have nl:=r9 _ hx'
   rw[hx']
   obtain⟨ad,a1,a2⟩:=rdf.EZ
   have b1:=a1 k ⟨by omega,by omega⟩
   have b2:=(a2 h.dU (Ext.refl _) k x hx).2
   have k1:=Ga h.dU x.1 x.2 (hv x (ux hx)) s
   rw[nl,if_neg (by decide)]at k1
   refine tB (fn:=AP.f312) (h2:=h.dU) (e:=[(6,.int .i64 k),(7,.bool (x.1.name.toList==s.toList))]) (vs:=[.int .i64 k,.bool (x.1.name.toList==s.toList)]) rfl rfl rfl ?_ rfl rfl
   generalize (x.1.name.toList==s.toList)=B at *
   clear rd rdf ris hv r1 r8 r9 a1 a2 hx hx' nl
   cases B
   · rw[if_neg (by decide)]at k1
     simp (disch:=omega)only[go_sem,uX,AP.f312,ln,rH,r1',r2,r3,r4,r5,r6,b1,b2,k1,nr]
   · rw[if_pos rfl]at k1
     simp (disch:=omega)only[go_sem,uX,AP.f312,ln,rH,r1',r2,r3,r4,r5,r6,b1,b2,k1,nr]
 · have e:(l.map (·.1))[k]?=none:=List.getElem?_eq_none (by simpa using c)
   rw[e]
   refine tB (fn:=AP.f312) (h2:=h.dU) (e:=[(6,.int .i64 k),(7,.bool false)]) (vs:=[.int .i64 k,.bool false]) rfl rfl rfl ?_ rfl rfl
   clear rd rdf ris hv r1 r8 r9 e
   simp (disch:=omega)only[go_sem,uX,AP.f312,ln,rH,r1',r2,r3,r4,r5,r6]
theorem Ih (h:H) (b o:Nat) {C:List AV} (v:AV) (g:h.get b=some C) (ho:C[o]?=some v) (l:List vh) (hl:l.length≤6) (rd:wv 9 h v l.length (u9 l)) (hv:∀x∈l,x.2.sc=true) (s:ByteArray) (ris:MQ (l.map (·.1))):
 aQ AP.A 307 [.aC b o,.str s] h=some (.bO [.int .i64 (vq s (l.map (·.1))).1,.bool (vq s (l.map (·.1))).2],h):=by
 have k1:=MX h v l hl rd hv s ris
 generalize vq s (l.map (·.1))=P at *
 refine ta (fn:=AP.f307) (h2:=h) (e:=[(4,.int .i64 P.1),(5,.bool P.2)]) (vs:=[.int .i64 P.1,.bool P.2]) rfl rfl rfl ?_ rfl
 clear rd hv ris
 simp (disch:=omega)only[go_sem,uX,AP.f307,QH,g,ho,k1]
theorem DQ {v w : AV} {a b : List Int} (hab : a.length = b.length) (hl : a.length < 1125899906842624) (h : H) (ra : Rd h v (ints a)) (rb : Rd h w (ints b)) : ∀ (q r p p' : List Int), a = p ++ q → b = p' ++ r → p.length = p'.length →
 (∃e',Lp AP.A [0,1,12,13] AP.f311L0 [(0,v),(1,w),(12,.int .i64 a.length),(13,.int .i64 p.length)] h=some (.exit 0,e',h)∧q=r)∨
 (∃e',Lp AP.A [0,1,12,13] AP.f311L0 [(0,v),(1,w),(12,.int .i64 a.length),(13,.int .i64 p.length)] h=some (.ret,e',h)∧look e' 4=.bool false∧q≠r)
 | [], r, p, p', hp, hp', hpp => by
   rw[Qv]at hp;subst hp
   have hr:r=[]:=Qw (by rw[hp',uN]at hab;omega)
   refine .inl ⟨[(0,v),(1,w),(12,.int .i64 a.length),(13,.int .i64 a.length),(14,.bool false)],sN ?_,hr.symm⟩
   simp (disch:=omega)only[go_sem,uX,AP.f311L0]
 | x :: q, [], p, p', hp, hp', hpp => by
   rw[hp,hp']at hab;simp at hab;omega
 | x :: q, y :: r, p, p', hp, hp', hpp => by
   have hlen:a.length=p.length+(q.length+1):=by rw[hp];simp
   obtain⟨ad,a1,a3⟩:=ra.wJ
   obtain⟨bd,b1,b3⟩:=rb.wJ
   have i1:=a1 p.length ⟨by omega,by omega⟩
   have i2:=a3 h (Ext.refl h) p.length x (by rw[hp];simp)
   have j1:=b1 p.length ⟨by omega,by omega⟩
   have j2:=b3 h (Ext.refl h) p.length y (by rw[hp',hpp];simp)
   have ih:=DQ hab hl h ra rb q r (p++[x]) (p'++[y]) (by rw[hp];simp) (by rw[hp'];simp) (by simp [hpp])
   have w1:(((p++[x]).length:Nat):Int)=(p.length:Int)+1:=by simp
   rw[w1]at ih
   by_cases c:x=y
   · have step:aK (aQ AP.A) bA AP.f311L0 (ax [(0,v),(1,w),(12,.int .i64 a.length),(13,.int .i64 p.length)] [0,1,12,13]) h=some (.normal,[(0,v),(1,w),(12,.int .i64 a.length),(13,.int .i64 ((p.length:Int)+1))],h):=by
      clear ih ra rb a1 a3 b1 b3 hp hp'
      simp (disch:=omega)only[go_sem,uX,AP.f311L0,i1,i2,j1,j2,Im c]
     rcases ih with ⟨e',r1,r2⟩|⟨e',r1,r2,r3⟩
     · exact .inl ⟨e',sP step r1,by rw[c,r2]⟩
     · exact .inr ⟨e',sP step r1,r2,fun q=>r3 (List.cons.inj q).2⟩
   · refine .inr ⟨[(4,.bool false)],tk ?_,rfl,fun q=>c (List.cons.inj q).1⟩
     clear ih ra rb a1 a3 b1 b3 hp hp'
     simp (disch:=omega)only[go_sem,uX,AP.f311L0,i1,i2,j1,j2,Mk c]
theorem NJ (h:H) (v w:AV) (a b:List Int) (ra:Rd h v (ints a)) (rb:Rd h w (ints b)) (hl:a.length<1125899906842624) (hb:b.length<1125899906842624):aQ AP.A 311 [v,w] h=some (.bool (decide (a=b)),h):=by
 have la:=ra.len
 have lb:=rb.len
 rw[o9]at la lb
 simp only[I]at la lb
 have ra':Rd h.dU v (ints a):=ra.mono fun i c q=>q
 have rb':Rd h.dU w (ints b):=rb.mono fun i c q=>q
 by_cases c:a.length=b.length
 · rcases DQ c hl h.dU ra' rb' a b [] [] rfl rfl rfl with ⟨e',r1,r2⟩|⟨e',r1,r2,r3⟩
   · have r1':Lp AP.A [0,1,12,13] AP.f311L0 [(0,v),(1,w),(12,.int .i64 a.length),(13,.int .i64 0)] h.dU=some (.exit 0,e',h.dU):=r1
     rw[dt r2]
     refine tB (fn:=AP.f311) (h2:=h.dU) (e:=[(4,.bool true)]) rfl rfl rfl ?_ rfl rfl
     clear ra rb ra' rb' r1 r2
     have c':((a.length:Nat):Int)=b.length:=by omega
     simp (disch:=omega)only[go_sem,uX,AP.f311,la,lb,rH,r1',Im c']
   · have r1':Lp AP.A [0,1,12,13] AP.f311L0 [(0,v),(1,w),(12,.int .i64 a.length),(13,.int .i64 0)] h.dU=some (.ret,e',h.dU):=r1
     rw[df r3]
     refine tB (fn:=AP.f311) (h2:=h.dU) (e:=e') (vs:=[.bool false]) rfl rfl rfl ?_ (by simp only[AP.f311,cJ,mP,r2];rfl) rfl
     clear ra rb ra' rb' r1 r3
     have c':((a.length:Nat):Int)=b.length:=by omega
     simp (disch:=omega)only[go_sem,uX,AP.f311,la,lb,rH,r1',Im c']
 · rw[df (fun q=>c (by rw[q]))]
   refine tB (fn:=AP.f311) (h2:=h.dU) (e:=[(4,.bool false)]) rfl rfl rfl ?_ rfl rfl
   clear ra rb ra' rb'
   have c':¬((a.length:Nat):Int)=b.length:=by omega
   simp (disch:=omega)only[go_sem,uX,AP.f311,la,lb,Mk c']
structure SB (B:Nat) (h:H) (o n i:Nat) (cs:List AV):Prop where
 get:h.get o=some cs
 len:cs.length=n* 2
 fl:h.floor≤o
 bo:B≤o
 el:∀k,k<n→∃(s:ByteArray) (j:Nat) (l:List Int),cs[k* 2]?=some (.str s)∧s.size≤8+(if k<i then 1 else 0)∧cs[k* 2+1]?=some (.aD j 0 4 1)∧h.get j=some (ints l)∧l.length=4∧B≤j∧j≠o∧h.floor≤j
structure SE (z f B N:Nat) (h:H) (o n i:Nat) (cs:List AV):Prop where
 get:h.get o=some cs
 len:cs.length=n* z
 fl:h.floor≤o
 bo:B≤o∧o<N
 el:∀k,k<n→∃(s:ByteArray) (j:Nat) (l:List Int),cs[k* z]?=some (.str s)∧s.size≤8+(if k<i then 1 else 0)∧cs[k* z+f]?=some (.aD j 0 4 1)∧h.get j=some (ints l)∧l.length=4∧B≤j∧j≠o∧h.floor≤j∧j<N
structure WE (B:Nat) (h:H) (v:AV) (l:List vh):Prop where
 own:vr 9 h v l.length (u9 l)
 ge:∀i,v.id?=some i→B≤i
 el:∀x∈l,x.1.name.size≤8∧x.1.vec.length=4∧∃j,x.2=.aD j 0 4 1∧h.get j=some (ints x.1.vec)∧B≤j∧v.id?≠some j∧h.floor≤j
theorem WE.mono {B:Nat} {h g:H} {v:AV} {l:List vh} (w:WE B h v l) (hf:g.floor=h.floor) (hg:∀i,B≤i→i<h.next→(v.id?=some i∨∃x∈l,x.2.id?=some i)→g.get i=h.get i):WE B g v l:=
 ⟨w.own.mono hf fun i q=>hg i (w.ge i q) (w.own.lt q).2 (.inl q),w.ge,fun x hx=>by
  obtain⟨c1,c2,j,a1,a2,a3,a4,a5⟩:=w.el x hx
  exact⟨c1,c2,j,a1,by rw[hg j a3 (h.lt _ _ a2) (.inr ⟨x,hx,by rw[a1];rfl⟩)];exact a2,a3,a4,by rw[hf];exact a5⟩⟩
def WI (B:Nat) (h:H) (v:AV) (l:List Int):Prop:=v=.aO∨∃i,v=.aD i 0 l.length 1∧h.get i=some (ints l)∧h.floor≤i∧B≤i∧l.length<1000000
theorem WI.ge {B:Nat} {h:H} {v:AV} {l:List Int} (w:WI B h v l) {k:Nat} (hk:k<B):v.id?≠some k:=fun q=>by
 rcases w with rfl|⟨i,rfl,_,_,w3,_⟩
 · cases q
 · have:=ue q;omega
def WS (B:Nat) (h:H) (v:AV) (l:List ByteArray):Prop:=v=.aO∨∃i,v=.aD i 0 l.length 1∧h.get i=some (wT l)∧h.floor≤i∧B≤i∧l.length<1000000∧∀s∈l,s.size≤1000
structure WB (B:Nat) (h:H) (v:AV) (l:List xm):Prop where
 own:vr 2 h v l.length (wg l)
 ge:∀i,v.id?=some i→B≤i
 el:∀x∈l,x.1.1.size≤8∧x.1.2.length=4∧∃j,x.2=.aD j 0 4 1∧h.get j=some (ints x.1.2)∧B≤j∧v.id?≠some j∧h.floor≤j
theorem WB.mono {B:Nat} {h g:H} {v:AV} {l:List xm} (w:WB B h v l) (hf:g.floor=h.floor) (hg:∀i,B≤i→i<h.next→(v.id?=some i∨∃x∈l,x.2.id?=some i)→g.get i=h.get i):WB B g v l:=
 ⟨w.own.mono hf fun i q=>hg i (w.ge i q) (w.own.lt q).2 (.inl q),w.ge,fun x hx=>by
  obtain⟨c1,c2,j,a1,a2,a3,a4,a5⟩:=w.el x hx
  exact⟨c1,c2,j,a1,by rw[hg j a3 (h.lt _ _ a2) (.inr ⟨x,hx,by rw[a1];rfl⟩)];exact a2,a3,a4,by rw[hf];exact a5⟩⟩
inductive WM (B:Nat) (h:H) (y:vL):Prop where
 |d (hd:WI B h y.vd y.m.vJ) (e1:y.vb=.aO) (e2:y.vf=.aO) (e3:y.vn=.aO) (e4:y.ve=.aO)
 |b (hb:WI B h y.vb y.m.vR) (hf:WB B h y.vf y.fs) (hn:y.fs.length≤1000) (ap:∀i,y.vb.id?=some i→y.vf.id?≠some i∧∀x∈y.fs,x.2.id?≠some i) (e1:y.vd=.aO) (e3:y.vn=.aO) (e4:y.ve=.aO)
 |n (hn:WS B h y.vn y.m.names) (e1:y.vd=.aO) (e2:y.vb=.aO) (e3:y.vf=.aO) (e4:y.ve=.aO)
 |e (he:WE B h y.ve y.es) (hn:y.es.length≤1000) (e1:y.vd=.aO) (e2:y.vb=.aO) (e3:y.vf=.aO) (e4:y.vn=.aO)
theorem HF {m:yJ} (h:¬(m.kind=0∨m.kind=1∨m.kind=2∨m.kind=3∨m.kind=4)):wO m=false:=by
 unfold wO
 rw[if_neg (by omega),if_neg (by omega),if_neg (by omega),if_neg (by omega),if_neg (by omega)]
theorem Oz (h:H) (n:Int):aQ AP.A 261 [.int .i64 n] h=some (.bool (!yU n),h):=by
 have k1:=HD h.dU n
 refine tB (fn:=AP.f261) (h2:=h.dU) (e:=[(2,.bool (!yU n))]) rfl rfl rfl ?_ rfl rfl
 simp (disch:=omega)only[go_sem,uX,AP.f261,k1]
def OA (v:AV):Bool:=match v with| .int .i64 n=> !yU n|_=>false
theorem Cn:∀l:List Int,(ints l).any OA= !l.all yU
 |[]=>rfl
 |n::l=>by
  have:=Cn l
  simp only[ints,Qz,List.any_cons,List.all_cons,Bool.not_and]at *
  rw[this];rfl
theorem F3 {G:H} {P:Nat} {D:List AV} {r:Int} {v4 v5 v6 v7 v8:AV} {a b c d e:Nat} (g:G.get P=some D) (d3:D[3]?=some (.int .i64 r)) (d4:D[4]?=some v4) (d5:D[5]?=some v5) (d6:D[6]?=some v6) (d7:D[7]?=some v7) (d8:D[8]?=some v8)
 (l4:iY false v4=some (.int .i64 a)) (l5:iY false v5=some (.int .i64 b)) (l6:iY false v6=some (.int .i64 c)) (l7:iY false v7=some (.int .i64 d)) (l8:iY false v8=some (.int .i64 e)) (za:a<140737488355328) (zb:b<140737488355328) (zc:c<140737488355328) (zd:d<140737488355328) (ze:e<140737488355328) (F:Bool):
 aK (aQ AP.A) bA (DF 4 AP.f233.body) [(1,.aC P 0),(3,.bool F)] G=some (.ret,[(2,.bool (F&&(decide (r=0)&&decide ((((a:Int)+b)+c+d)+e=0))))],G):=by
 cases F with
 |false=>simp (disch:=omega)only[go_sem,uX,AP.f233,AO,AQ]
 | true =>
   by_cases cr:r=0
   · by_cases ct:(((a:Int)+b)+c+d)+e=0<;>simp (disch:=omega)only[go_sem,uX,AP.f233,AO,AQ,g,d3,d4,d5,d6,d7,d8,l4,l5,l6,l7,l8]
   · simp (disch:=omega)only[go_sem,uX,AP.f233,AO,AQ,g,d3,d4,d5,d6,d7,d8,l4,l5,l6,l7,l8]
theorem F1 {G : H} {P : Nat} {C : List AV} {s d : Int} (g : G.get P = some C) (e1 : C[1]? = some (.int .i64 s)) (e2 : C[2]? = some (.int .i64 d)) : aK (aQ AP.A) bA (at_ 1 AP.f233.body) [(1, .aC P 0)] G = if (vD s && (vD d && !decide (s = d))) = true then some (.normal, [(1, .aC P 0)], G) else some (.ret, [(2, .bool false)], G) := by
 have q1:=Av G s
 have q2:=Av G d
 cases b1:vD s with
 | false =>
   rw[b1]at q1
   rw[Qu,if_neg (by decide)]
   simp (disch:=omega)only[go_sem,uX,AP.f233,vG,vB,g,e1,e2,q1,q2]
 | true =>
   rw[b1]at q1
   cases b2:vD d with
   | false =>
     rw[b2]at q2
     rw[Qu,Qx,if_neg (by decide)]
     simp (disch:=omega)only[go_sem,uX,AP.f233,vG,vB,g,e1,e2,q1,q2]
   | true =>
     rw[b2]at q2
     by_cases c:s=d
     · rw[dt c,Bool.not_true,Qx,Qx,if_neg (by decide)]
       simp (disch:=omega)only[go_sem,uX,AP.f233,vG,vB,g,e1,e2,q1,q2]
     · rw[df c,Bool.not_false,QF,QF,if_pos rfl]
       simp (disch:=omega)only[go_sem,uX,AP.f233,vG,vB,g,e1,e2,q1,q2]
theorem F0:AP.f233.body=.seq (at_ 0 AP.f233.body) (.seq (at_ 1 AP.f233.body) (.seq (at_ 2 AP.f233.body) (.seq (at_ 3 AP.f233.body) (DF 4 AP.f233.body)))):=rfl
theorem Md (G:H) (x:vL) (o:zW G x) (P:Nat) (hP:G.floor≤P) (g:G.get P=some (uQ x)) (hk:x.m.kind=0):∃H2,aK (aQ AP.A) bA (at_ 3 AP.f233.body) [(1,.aC P 0),(3,.bool false)] G=some (.normal,[(1,.aC P 0),(3,.bool (yU x.m.root))],H2)∧H2.get P=some (uQ {x with m:={x.m with root:=0}}):=by
 have lC:(uQ x).length=9:=rfl
 have e0:(uQ x)[0]?=some (.int .i64 0):=by rw[←hk];rfl
 have e3:(uQ x)[3]?=some (.int .i64 x.m.root):=rfl
 have st:tD G P 3 1 [.int .i64 0] (some (uQ x))=some (G.set P (uQ {x with m:={x.m with root:=0}})):=by rw[tV hP (by rw[lC];omega) rfl];rfl
 refine⟨G.set P (uQ {x with m:={x.m with root:=0}}), ?_,by rw[uZ rfl,g];rfl⟩
 have k1:=HD G x.m.root
 clear o
 generalize uQ {x with m:={x.m with root:=0}}=D at *
 generalize uQ x=C at *
 simp (disch:=omega)only[go_sem,uX,AP.f233,vG,vB,g,e0,e3,st,k1]
theorem Me (G:H) (x:vL) (o:zW G x) (P:Nat) (hP:G.floor≤P) (g:G.get P=some (uQ x)) (hk:x.m.kind=1):∃H2,aK (aQ AP.A) bA (at_ 3 AP.f233.body) [(1,.aC P 0),(3,.bool false)] G=some (.normal,[(1,.aC P 0),(3,.bool (decide (x.m.vJ.length=8)&&x.m.vJ.all yU))],H2)∧H2.get P=some (uQ {x with vd:=.aO}):=by
 have lC:(uQ x).length=9:=rfl
 have e0:(uQ x)[0]?=some (.int .i64 1):=by rw[←hk];rfl
 have e4:(uQ x)[4]?=some (x.vd):=rfl
 have st:tD G P 4 1 [.aO] (some (uQ x))=some (G.set P (uQ {x with vd:=.aO})):=by rw[tV hP (by rw[lC];omega) rfl];rfl
 refine⟨G.set P (uQ {x with vd:=.aO}), ?_,by rw[uZ rfl,g];rfl⟩
 have ld:=o.rd.len
 rw[o9]at ld
 simp only[I]at ld
 have zd:=o.zd
 have k1:x.m.vJ.length=8→aQ AP.A 83 [x.vd,.fn 261 [] []] G=some (.bool (!x.m.vJ.all yU),G):=fun q=>by
  have:=yR (fv:=.fn 261 [] []) OA (fun v hv g=>by
   obtain⟨n,hn,rfl⟩:=Qy.1 hv
   rw[nr];exact Oz g n) (by rw[o9];omega) G o.rd
  rw[Cn]at this;exact this
 clear o
 generalize uQ {x with vd:=.aO}=D at *
 generalize uQ x=C at *
 by_cases c0:x.m.vJ.length=8
 · generalize x.m.vJ.all yU=B1 at *
   cases B1<;>simp (disch:=omega)only[go_sem,uX,AP.f233,vG,vB,g,e0,e4,st,ld,k1 c0,Bool.not_not]
 · simp (disch:=omega)only[go_sem,uX,AP.f233,vG,vB,g,e0,e4,st,ld]
theorem Mf (G:H) (x:vL) (o:zW G x) (P:Nat) (hP:G.floor≤P) (g:G.get P=some (uQ x)) (hk:x.m.kind=2):∃H2,aK (aQ AP.A) bA (at_ 3 AP.f233.body) [(1,.aC P 0),(3,.bool false)] G=some (.normal,[(1,.aC P 0),(3,.bool (decide (1≤x.m.vR.length)&&(yH x.m.vR&&(wj none (x.m.u3.map (·.1))&&(decide (x.m.u3.length≤6)&&x.m.u3.all fun b=>w8 b.2)))))],H2)∧H2.get P=some (uQ {x with vb:=.aO,vf:=.aO}):=by
 have lC:(uQ x).length=9:=rfl
 have e0:(uQ x)[0]?=some (.int .i64 2):=by rw[←hk];rfl
 have e5:(uQ x)[5]?=some (x.vb):=rfl
 have e6:(uQ x)[6]?=some (x.vf):=rfl
 obtain⟨D1,hD1⟩:∃D,D=uQ {x with vb:=.aO}:=⟨_,rfl⟩
 have lD1:D1.length=9:=by rw[hD1];rfl
 have g11:(G.set P D1).get P=some D1:=by rw[uZ rfl,g];rfl
 have AZ:tD G P 5 1 [.aO] (some (uQ x))=some (G.set P D1):=by rw[tV hP (by rw[lC];omega) rfl,hD1];rfl
 have st:tD (G.set P D1) P 6 1 [.aO] (some D1)=some (G.set P (uQ {x with vb:=.aO,vf:=.aO})):=by rw[tV (by simpa using hP) (by rw[lD1];omega) rfl,H.set_set,hD1];rfl
 refine⟨G.set P (uQ {x with vb:=.aO,vf:=.aO}), ?_,by rw[uZ rfl,g];rfl⟩
 have lb:=o.rb.len
 rw[o9]at lb
 simp only[I]at lb
 have zb:=o.zb
 have k1:=Fk G x.vb x.m.vR o.rb (by omega)
 have k2:=HR G o
 have k3:=Hm G o
 clear o hD1
 generalize uQ {x with vb:=.aO,vf:=.aO}=D at *
 generalize uQ x=C at *
 generalize yH x.m.vR=B1 at *
 generalize wj none (x.m.u3.map (·.1))=B2 at *
 generalize decide (x.m.u3.length≤6)=B4 at *
 generalize (x.m.u3.all fun b=>w8 b.2)=B3 at *
 by_cases c0:1≤x.m.vR.length
 · cases B1<;>cases B2<;>cases B4<;>cases B3<;>simp (disch:=omega)only[go_sem,uX,AP.f233,vG,vB,g,e0,e5,e6,AZ,g11,st,lb,k1,k2,k3]
 · simp (disch:=omega)only[go_sem,uX,AP.f233,vG,vB,g,e0,e5,e6,AZ,g11,st,lb,k1,k2,k3]
theorem Mg (G:H) (x:vL) (o:zW G x) (P:Nat) (hP:G.floor≤P) (g:G.get P=some (uQ x)) (hk:x.m.kind=3):∃H2,aK (aQ AP.A) bA (at_ 3 AP.f233.body) [(1,.aC P 0),(3,.bool false)] G=some (.normal,[(1,.aC P 0),(3,.bool (wj none x.m.names&&(decide (1≤x.m.names.length)&&decide (x.m.names.length≤6))))],H2)∧H2.get P=some (uQ {x with vn:=.aO}):=by
 have lC:(uQ x).length=9:=rfl
 have e0:(uQ x)[0]?=some (.int .i64 3):=by rw[←hk];rfl
 have e7:(uQ x)[7]?=some (x.vn):=rfl
 have st:tD G P 7 1 [.aO] (some (uQ x))=some (G.set P (uQ {x with vn:=.aO})):=by rw[tV hP (by rw[lC];omega) rfl];rfl
 refine⟨G.set P (uQ {x with vn:=.aO}), ?_,by rw[uZ rfl,g];rfl⟩
 have k1:=HT G o
 clear o
 generalize uQ {x with vn:=.aO}=D at *
 generalize uQ x=C at *
 generalize (wj none x.m.names&&(decide (1≤x.m.names.length)&&decide (x.m.names.length≤6)))=B1 at *
 simp (disch:=omega)only[go_sem,uX,AP.f233,vG,vB,g,e0,e7,st,k1]
theorem Mh (G:H) (x:vL) (o:zW G x) (P:Nat) (hP:G.floor≤P) (g:G.get P=some (uQ x)) (hk:x.m.kind=4):∃H2,aK (aQ AP.A) bA (at_ 3 AP.f233.body) [(1,.aC P 0),(3,.bool false)] G=some (.normal,[(1,.aC P 0),(3,.bool ((wj none (x.m.vF.map (·.name))&&(decide (1≤x.m.vF.length)&&decide (x.m.vF.length≤6)))&&x.m.vF.all vV))],H2)∧H2.get P=some (uQ {x with ve:=.aO}):=by
 have lC:(uQ x).length=9:=rfl
 have e0:(uQ x)[0]?=some (.int .i64 4):=by rw[←hk];rfl
 have e8:(uQ x)[8]?=some (x.ve):=rfl
 have st:tD G P 8 1 [.aO] (some (uQ x))=some (G.set P (uQ {x with ve:=.aO})):=by rw[tV hP (by rw[lC];omega) rfl];rfl
 refine⟨G.set P (uQ {x with ve:=.aO}), ?_,by rw[uZ rfl,g];rfl⟩
 have k1:=HS G o
 have k2:=Hn G o
 clear o
 generalize uQ {x with ve:=.aO}=D at *
 generalize uQ x=C at *
 generalize (wj none (x.m.vF.map (·.name))&&(decide (1≤x.m.vF.length)&&decide (x.m.vF.length≤6)))=B1 at *
 generalize x.m.vF.all vV=B2 at *
 cases B1<;>cases B2<;>simp (disch:=omega)only[go_sem,uX,AP.f233,vG,vB,g,e0,e8,st,k1,k2,Bool.not_not]
theorem Mi (G:H) (P:Nat) {C:List AV} {n:Int} (g:G.get P=some C) (e0:C[0]?=some (.int .i64 n)) (h:¬(n=0∨n=1∨n=2∨n=3∨n=4)):aK (aQ AP.A) bA (at_ 3 AP.f233.body) [(1,.aC P 0),(3,.bool false)] G=some (.normal,[(1,.aC P 0),(3,.bool false)],G):=by
 simp (disch:=omega)only[go_sem,uX,AP.f233,vG,vB,g,e0]
theorem Mj (h : H) (x : vL) (o : zW h x) : aQ AP.A 233 [.agg (uQ x)] h = some (.bool (xU x.m), h) := by
 obtain⟨h1,eh1⟩:∃g,g=h.dU.alloc (uQ x):=⟨_,rfl⟩
 have x1:Ext h h1:=fun i c q=>by rw[eh1];exact((Ext.refl h.dU).alloc _) i c q
 have g1:h1.get h.next=some (uQ x):=by rw[eh1];exact uW rfl
 have n0:h.dU.next=h.next:=rfl
 have f1:h1.floor=h.next:=by rw[eh1];simp
 have o1:=o.mono x1
 have ld:=o1.rd.len
 have lb:=o1.rb.len
 have lf:=o1.rf.rd.len
 have ln:=o1.rn.len
 have le:=o1.re.len
 rw[o9]at ld lb
 rw[vW]at ln
 rw[show x.fs.length=x.m.u3.length by rw[←o.hf];simp]at lf
 rw[show x.es.length=x.m.vF.length by rw[←o.he];simp]at le
 have b0:aK (aQ AP.A) bA (at_ 0 AP.f233.body) (params 0 [.agg (uQ x)]) h.dU=some (.normal,[(1,.aC h.next 0)],h1):=by
  have cC:=xV o
  have lC:(uQ x).length=9:=rfl
  generalize uQ x=C at *
  clear o o1 x1
  simp (disch:=omega)only[go_sem,uX,AP.f233,vB,lC,cC,n0,←eh1]
 have b1:=F1 g1 (s:=x.m.src) (d:=x.m.dst) rfl rfl
 have b2:aK (aQ AP.A) bA (at_ 2 AP.f233.body) [(1,.aC h.next 0)] h1=some (.normal,[(1,.aC h.next 0),(3,.bool false)],h1):=by
  simp (disch:=omega)only[go_sem,uX,AP.f233,vG,vB]
 have eA:xU x.m=((vD x.m.src&&(vD x.m.dst&& !decide (x.m.src=x.m.dst)))&&(wO x.m&&xr x.m)):=rfl
 obtain ⟨hZ, hh⟩ : ∃ hZ, aK (aQ AP.A) bA AP.f233.body (params 0 [.agg (uQ x)]) h.dU = some (.ret, [(2, .bool (xU x.m))], hZ) := by
  rw[F0,eA]
  generalize (vD x.m.src&&(vD x.m.dst&& !decide (x.m.src=x.m.dst)))=N at *
  cases N with
  | false =>
    rw[if_neg (by decide)]at b1
    refine⟨h1, ?_⟩
    rw[Qu,rk,b0,r0,rk,b1,sf]
  | true =>
    rw[if_pos rfl]at b1
    rw[QB]
    have go:∀{F:Bool} {H2:H} {y:vL} {a b c d e:Nat},aK (aQ AP.A) bA (at_ 3 AP.f233.body) [(1,.aC h.next 0),(3,.bool false)] h1=some (.normal,[(1,.aC h.next 0),(3,.bool F)],H2)→H2.get h.next=some (uQ y)→
     iY false y.vd=some (.int .i64 a)→iY false y.vb=some (.int .i64 b)→iY false y.vf=some (.int .i64 c)→iY false y.vn=some (.int .i64 d)→iY false y.ve=some (.int .i64 e)→a<140737488355328→b<140737488355328→c<140737488355328→d<140737488355328→e<140737488355328→
     wO x.m=F→(F=true→xr x.m=(decide (y.m.root=0)&&decide ((((a:Int)+b)+c+d)+e=0)))→
     ∃hZ,aK (aQ AP.A) bA (.seq (at_ 0 AP.f233.body) (.seq (at_ 1 AP.f233.body) (.seq (at_ 2 AP.f233.body) (.seq (at_ 3 AP.f233.body) (DF 4 AP.f233.body))))) (params 0 [.agg (uQ x)]) h.dU=some (.ret,[(2,.bool (wO x.m&&xr x.m))],hZ):=fun {F H2 y a b c d e} k1 k2 l4 l5 l6 l7 l8 za zb zc zd ze ek el=>by
     have b4:=F3 k2 (r:=y.m.root) rfl rfl rfl rfl rfl rfl l4 l5 l6 l7 l8 za zb zc zd ze F
     refine⟨H2, ?_⟩
     rw[rk,b0,r0,rk,b1,r0,rk,b2,r0,rk,k1,r0,b4,ek]
     cases F with
     |false=>rfl
     |true=>rw[el rfl]
    by_cases hk:x.m.kind=0
    · obtain⟨H2,k1,k2⟩:=Md h1 x o1 h.next (by omega) g1 hk
      exact go k1 k2 ld lb lf ln le o.zd o.zb o.zf o.zn o.ze (by unfold wO;rw[if_pos hk]) fun _=>by rw[L8 hk];rfl
    by_cases hk:x.m.kind=1
    · obtain⟨H2,k1,k2⟩:=Me h1 x o1 h.next (by omega) g1 hk
      exact go k1 k2 (a:=0) rfl lb lf ln le (by omega) o.zb o.zf o.zn o.ze (by unfold wO;rw[if_neg (by omega),if_pos hk]) fun _=>L9 hk
    by_cases hk:x.m.kind=2
    · obtain⟨H2,k1,k2⟩:=Mf h1 x o1 h.next (by omega) g1 hk
      exact go k1 k2 (b:=0) (c:=0) ld rfl rfl ln le o.zd (by omega) (by omega) o.zn o.ze (by unfold wO;rw[if_neg (by omega),if_neg (by omega),if_pos hk]) fun _=>Ma hk
    by_cases hk:x.m.kind=3
    · obtain⟨H2,k1,k2⟩:=Mg h1 x o1 h.next (by omega) g1 hk
      exact go k1 k2 (d:=0) ld lb lf rfl le o.zd o.zb o.zf (by omega) o.ze (by unfold wO;rw[if_neg (by omega),if_neg (by omega),if_neg (by omega),if_pos hk]) fun _=>lean_3 hk
    by_cases hk:x.m.kind=4
    · obtain⟨H2,k1,k2⟩:=Mh h1 x o1 h.next (by omega) g1 hk
      refine go k1 k2 (e:=0) ld lb lf ln rfl o.zd o.zb o.zf o.zn (by omega) ?_ fun _=>Mb hk
      unfold wO
      rw[if_neg (by omega),if_neg (by omega),if_neg (by omega),if_neg (by omega),if_pos hk]
      unfold vQ wW
      have:=C7 x.m.vF none
      rw[QC]at this
      generalize decide (x.m.vF.length≤6)=W at *
      generalize decide (1≤x.m.vF.length)=W2 at *
      cases W<;>cases W2<;>simp only[Bool.and_true,Qx,Qu,QB]<;>exact this
    have k1:=Mi h1 h.next g1 (n:=x.m.kind) rfl (by omega)
    exact go k1 g1 ld lb lf ln le o.zd o.zb o.zf o.zn o.ze (HF (by omega)) fun q=>by cases q
 exact tB (fn:=AP.f233) (h2:=hZ) (e:=[(2,.bool (xU x.m))]) rfl rfl rfl hh rfl rfl
theorem HE (h:H) (v w:AV) (a b:List Int) (ra:Rd h v (ints a)) (rb:Rd h w (ints b)) (ha:w8 a=true) (hb:w8 b=true) (hfn:h.floor≤h.next):∃h',aQ AP.A 110 [v,w] h=some (.bO [.aD (h.next+1) 0 4 1,.int .i64 0],h')∧h'.get (h.next+1)=some (ints (zP a b))∧h'.floor=h.floor∧h'.next=h.next+2∧∀i,i<h.next→h'.get i=h.get i:=by
 have la:a.length=4:=by unfold w8 at ha;simp only[uu,Qt]at ha;exact ha.1
 have lb:b.length=4:=by unfold w8 at hb;simp only[uu,Qt]at hb;exact hb.1
 have k1:=Ei h v a ra (by omega)
 have k2:=Ei h w b rb (by omega)
 rw[ha]at k1;rw[hb]at k2
 have k3:=BI h v a ra (by omega) (by omega) hfn
 rw[la]at k3
 obtain⟨h1,eh1⟩:∃g,g=((h.alloc []).del h.next).alloc (ints a):=⟨_,rfl⟩
 rw[←eh1]at k3
 have n1:h1.next=h.next+2:=by rw[eh1];simp
 have f1:h1.floor=h.floor:=by rw[eh1];simp
 have g1:h1.get (h.next+1)=some (ints a):=by rw[eh1];exact uW (by simp)
 have e1:Ext h h1:=fun i c q=>by
  have:=h.lt _ _ q
  rw[eh1,H.aV,if_neg (by simp;omega),H.dX,if_neg (by omega),H.aV,if_neg (by omega)];exact q
 have ln:=(rb.mono fun i c q=>e1 i c q).len
 rw[o9,lb]at ln
 obtain⟨adv,a1,a2⟩:=rb.wJ
 obtain⟨a0,b0,c0,d0,rfl⟩:=Ik la
 obtain⟨p0,p1,p2,p3,rfl⟩:=Ik lb
 obtain⟨h2,eh2⟩:∃g,g=h1.set (h.next+1) (ints [v9 a0 p0,b0,c0,d0]):=⟨_,rfl⟩
 obtain⟨h3,eh3⟩:∃g,g=h2.set (h.next+1) (ints [v9 a0 p0,v9 b0 p1,c0,d0]):=⟨_,rfl⟩
 obtain⟨h4,eh4⟩:∃g,g=h3.set (h.next+1) (ints [v9 a0 p0,v9 b0 p1,v9 c0 p2,d0]):=⟨_,rfl⟩
 obtain⟨h5,eh5⟩:∃g,g=h4.set (h.next+1) (ints [v9 a0 p0,v9 b0 p1,v9 c0 p2,v9 d0 p3]):=⟨_,rfl⟩
 have g2:h2.get (h.next+1)=some (ints [v9 a0 p0,b0,c0,d0]):=by rw[eh2,uZ rfl,g1];rfl
 have g3:h3.get (h.next+1)=some (ints [v9 a0 p0,v9 b0 p1,c0,d0]):=by rw[eh3,uZ rfl,g2];rfl
 have g4:h4.get (h.next+1)=some (ints [v9 a0 p0,v9 b0 p1,v9 c0 p2,d0]):=by rw[eh4,uZ rfl,g3];rfl
 have g5:h5.get (h.next+1)=some (ints [v9 a0 p0,v9 b0 p1,v9 c0 p2,v9 d0 p3]):=by rw[eh5,uZ rfl,g4];rfl
 have e2:Ext h h2:=by rw[eh2];exact e1.set (by omega) _
 have e3:Ext h h3:=by rw[eh3];exact e2.set (by omega) _
 have e4:Ext h h4:=by rw[eh4];exact e3.set (by omega) _
 have s0:=yA h1 (h.next+1) w adv 0 a0 p0 _ (by omega) g1 rfl rfl (by omega) (a1 0 (by simp)) (a2 h1 e1 0 _ rfl)
 have s1:=yA h2 (h.next+1) w adv 1 b0 p1 _ (by omega) g2 rfl rfl (by rw[eh2];simp;omega) (a1 1 (by simp)) (a2 h2 e2 1 _ rfl)
 have s2:=yA h3 (h.next+1) w adv 2 c0 p2 _ (by omega) g3 rfl rfl (by rw[eh3,eh2];simp;omega) (a1 2 (by simp)) (a2 h3 e3 2 _ rfl)
 have s3:=yA h4 (h.next+1) w adv 3 d0 p3 _ (by omega) g4 rfl rfl (by rw[eh4,eh3,eh2];simp;omega) (a1 3 (by simp)) (a2 h4 e4 3 _ rfl)
 have st0:h1.set (h.next+1) ((ints [a0,b0,c0,d0]).set 0 (.int .i64 (v9 a0 p0)))=h2:=eh2.symm
 have AZ:h2.set (h.next+1) ((ints [v9 a0 p0,b0,c0,d0]).set 1 (.int .i64 (v9 b0 p1)))=h3:=eh3.symm
 have st2:h3.set (h.next+1) ((ints [v9 a0 p0,v9 b0 p1,c0,d0]).set 2 (.int .i64 (v9 c0 p2)))=h4:=eh4.symm
 have st3:h4.set (h.next+1) ((ints [v9 a0 p0,v9 b0 p1,v9 c0 p2,d0]).set 3 (.int .i64 (v9 d0 p3)))=h5:=eh5.symm
 rw[st0]at s0;rw[AZ]at s1;rw[st2]at s2;rw[st3]at s3
 have fin:Lp AP.A [6,19,20,21] AP.f110L0 [(6,.aD (h.next+1) 0 4 1),(19,w),(20,.int .i64 4),(21,.int .i64 4)] h5=some (.exit 0,[(6,.aD (h.next+1) 0 4 1),(19,w),(20,.int .i64 4),(21,.int .i64 4),(22,.bool false)],h5):=by
  refine sN ?_
  simp (disch:=omega)only[go_sem,uX,AP.f110L0]
 have lp:Lp AP.A [6,19,20,21] AP.f110L0 [(6,.aD (h.next+1) 0 4 1),(19,w),(20,.int .i64 4),(21,.int .i64 0)] h1=some (.exit 0,[(6,.aD (h.next+1) 0 4 1),(19,w),(20,.int .i64 4),(21,.int .i64 4),(22,.bool false)],h5):=
  sP s0 (sP s1 (sP s2 (sP s3 fin)))
 simp only[I]at ln
 have ln':iY false w=some (.int .i64 4):=ln
 refine⟨h5,ta (fn:=AP.f110) (h2:=h5) (e:=[(4,.aD (h.next+1) 0 4 1),(5,.int .i64 0)]) (vs:=[.aD (h.next+1) 0 4 1,.int .i64 0]) rfl rfl rfl ?_ rfl,g5,by rw[eh5,eh4,eh3,eh2];simp [f1],by rw[eh5,eh4,eh3,eh2];simp [n1],fun i hi=>by rw[eh5,uU (by omega),eh4,uU (by omega),eh3,uU (by omega),eh2,uU (by omega),eh1,H.aV,if_neg (by simp;omega),H.dX,if_neg (by omega),H.aV,if_neg (by omega)]⟩
 clear a1 a2 e1 e2 e3 e4 s0 s1 s2 s3 ra rb fin ha hb
 simp (disch:=omega)only[go_sem,uX,AP.f110,k1,k2,k3,ln',rH,lp]
theorem Ht (h:H) (hf:h.floor≤h.next) (e:vv) (v:AV) (hv:v.sc=true) (ok:wM h (e,v)) (h4:e.vec.length=4):
 ∃h' i,aQ AP.A 308 [.agg (uY e v)] h=some (.agg (uY e (.aD i 0 4 1)),h')∧h'.get i=some (ints e.vec)∧h.next≤i∧Ext h h'∧h'.floor=h.floor∧h.next≤h'.next:=by
 obtain⟨h1,eh1⟩:∃g,g=h.alloc (uY e v):=⟨_,rfl⟩
 obtain⟨h2,eh2⟩:∃g,g=h1.alloc (uY zC .aO):=⟨_,rfl⟩
 obtain⟨h3,eh3⟩:∃g,g=((h2.alloc []).del h2.next).alloc (ints e.vec):=⟨_,rfl⟩
 have n1:h1.next=h.next+1:=by rw[eh1];simp
 have n2:h2.next=h.next+2:=by rw[eh2];simp [n1]
 have n3:h3.next=h.next+4:=by rw[eh3];simp [n2]
 have f2:h2.floor=h.floor:=by rw[eh2,eh1];simp
 have f3:h3.floor=h.floor:=by rw[eh3];simp [f2]
 have low:∀i,i<h.next+2→h3.get i=h2.get i:=fun i hi=>by rw[eh3,u6 (by simp [n2];omega),H.dX,if_neg (by omega),u6 (by omega)]
 have x2:Ext h h2:=by rw[eh2,eh1];exact((Ext.refl h).alloc _).alloc _
 have ga:h2.get h.next=some (uY e v):=by rw[eh2,u6 (by omega),eh1,uW rfl]
 have gz:h2.get (h.next+1)=some (uY zC .aO):=by rw[eh2,uW (by omega)]
 have k1:=BI h2 v e.vec (ok.vec.mono fun i c q=>x2 i c q) (by omega) (by omega) (by rw[f2,n2];omega)
 rw[n2,h4]at k1
 rw[←n2,←eh3,n2]at k1
 have g3:h3.get (h.next+3)=some (ints e.vec):=by rw[eh3,uW (by simp [n2])]
 have ga3:h3.get h.next=some (uY e v):=by rw[low _ (by omega)];exact ga
 have gz3:h3.get (h.next+1)=some (uY zC .aO):=by rw[low _ (by omega)];exact gz
 obtain⟨w,hw⟩:∃w,w=AV.aD (h.next+3) 0 4 1:=⟨_,rfl⟩
 have k1':aQ AP.A 118 [v] h2=some (w,h3):=by rw[hw];exact k1
 have sw:w.sc=true:=by rw[hw];rfl
 have cw:=wK sw
 obtain⟨h4',eh4⟩:∃g,g=h3.set h.next (uY e w):=⟨_,rfl⟩
 obtain⟨h5,eh5⟩:∃g,g=h4'.set (h.next+1) (uY e w):=⟨_,rfl⟩
 have ga4:h4'.get h.next=some (uY e w):=by rw[eh4,uZ rfl,ga3];rfl
 have gz4:h4'.get (h.next+1)=some (uY zC .aO):=by rw[eh4,uU (by omega)];exact gz3
 have gz5:h5.get (h.next+1)=some (uY e w):=by rw[eh5,uZ rfl,gz4];rfl
 have st4:tD h3 h.next 2 1 [w] (some (uY e v))=some h4':=by rw[tV (by omega) (by show 2<9;omega) sw,eh4];rfl
 have st5:tD h4' (h.next+1) 0 9 (uY e w) (some (uY zC .aO))=some h5:=by
  rw[eh5];exact vE (by rw[eh4];simp;omega) rfl rfl (wY sw)
 have K:aQ AP.A 308 [.agg (uY e v)] h=some (.agg (uY e w),h5):=by
  refine ta (fn:=AP.f308) (h2:=h5) (e:=[(2,.aC (h.next+1) 0)]) (vs:=[.agg (uY e w)]) rfl rfl rfl ?_ (by simp only[AP.f308,cJ,mP,mD,qk,gz5,sI];rfl)
  have z:h1.alloc [.str ⟨#[]⟩,.bool false,.aO,.int .i64 0,.int .i64 0,.int .i64 0,.str ⟨#[]⟩,.int .i64 0,.int .i64 0]=h2:=eh2.symm
  have lE:(uY e v).length=9:=rfl
  have cE:=wY (e:=e) hv
  have e2:(uY e v)[2]?=some v:=rfl
  have rr:gY true 9 (uY e w) 0=some (.agg (uY e w)):=rfl
  clear ok low x2 hw
  generalize uY e v=A at *
  generalize uY e w=B at *
  simp (disch:=omega)only[go_sem,uX,AP.f308,lE,cE,←eh1,n1,z,ga,e2,k1',ga3,cw,st4,ga4,rr,gz4,st5]
 rw[hw]at K
 refine⟨h5,h.next+3,K, ?_,by omega,fun i c q=> ?_,by rw[eh5,eh4];simp [f3],by rw[eh5,eh4];simp;omega⟩
 · rw[eh5,uU (by omega),eh4,uU (by omega)];exact g3
 · have:=h.lt _ _ q
   rw[eh5,uU (by omega),eh4,uU (by omega),low _ (by omega)];exact x2 i c q
def zD (L:List vv) (b:E1):Bool:=(vq b.1 L).2&&(match L[(vq b.1 L).1]? with|some e=>decide (zP e.vec b.2=e.vec)|none=>false)
theorem Ay (s:ByteArray):∀(L:List vv),(vq s L).2=true→(vq s L).1<L.length
 |[],h=>by cases h
 | e :: L, h => by
   rw[vq]at h ⊢
   by_cases c:Op.bytesLess e.name.toList s.toList=true
   · rw[if_pos c]at h ⊢
     have:=Ay s L h
     simp only[Qm];omega
   · rw[if_neg c];simp
theorem wR {L:List vv} (h:vQ L=true):wW L=true:=by
 unfold vQ at h;rw[uu]at h;exact h.1
theorem Ao {L:List vv} (h:vQ L=true):∀e∈L,w8 e.vec=true∧e.vec.length=4∧e.name.size≤8:=fun e he=>by
 have m:=(vC (wR h)).2.1 e he
 have v:=m.2.1
 simp only[vN,uu]at v
 exact⟨v.1,(xo m.2.1).1,(wB m.1).2⟩
structure Sd (h:H) (v w:AV) (l:List vh):Prop where
 rd:wv 9 h v l.length (u9 l)
 ok:∀x∈l,wM h x∧x.2.sc=true
 fo:vQ (l.map (·.1))=true
 dg:Rd h w (ints (vw (l.map (·.1))))
theorem Sd.mono {h g:H} {v w:AV} {l:List vh} (s:Sd h v w l) (e:Ext h g):Sd g v w l:=
 ⟨s.rd.mono fun i c q=>e i c q,fun x hx=>⟨(s.ok x hx).1.mono e,(s.ok x hx).2⟩,s.fo,s.dg.mono fun i c q=>e i c q⟩
theorem Sd.len {h:H} {v w:AV} {l:List vh} (s:Sd h v w l):l.length≤6:=by
 have:=(vC (wR s.fo)).1
 simpa using this
theorem HG (h:H) (hf:h.floor≤h.next) (S:Nat) (v w:AV) (l:List vh) (sd:Sd h v w l) (gS:h.get S=some [v,w]) (p:AV) (b:E1) (vb:AV) (pn:∀g,jw g p=some (p,g)) (p0 p1:AV) (q0:eY 0 p=some p0) (q1:eY 1 p=some p1) (l0:∀g,Ext h g→bS false 1 p0 g=some (.str b.1)) (l1:∀g,Ext h g→bS false 1 p1 g=some vb) (rv:Rd h vb (ints b.2)) (hb:w8 b.2=true):
 ∃h',aQ AP.A 306 [.aC S 0,p] h=some (.bool (zD (l.map (·.1)) b),h')∧Ext h h'∧h'.floor=h.floor∧h.next≤h'.next:=by
 have ln:=sd.len
 have k1:=Ih h S 0 v gS rfl l ln sd.rd (fun x hx=>(sd.ok x hx).2) b.1 (Gs (wR sd.fo))
 have m0:=l0 h (Ext.refl h)
 have m1:=l1 h (Ext.refl h)
 unfold zD
 cases hp:(vq b.1 (l.map (·.1))).2 with
 | false =>
   rw[hp]at k1
   rw[Qu]
   refine⟨h,ta (fn:=AP.f306) (h2:=h) (e:=[(4,.bool false)]) (vs:=[.bool false]) rfl rfl rfl ?_ rfl,Ext.refl h,rfl,ur _⟩
   clear sd l0 l1 rv
   generalize (vq b.1 (l.map (·.1))).1=K at *
   simp (disch:=omega)only[go_sem,uX,AP.f306,pn,q0,q1,m0,m1,k1]
 | true =>
   rw[hp]at k1
   rw[QB]
   have lt:=Ay _ _ hp
   rw[Qr]at lt
   obtain⟨x,hx⟩:∃x,l[(vq b.1 (l.map (·.1))).1]?=some x:=⟨l[(vq b.1 (l.map (·.1))).1],by simp⟩
   have hx':(l.map (·.1))[(vq b.1 (l.map (·.1))).1]?=some x.1:=by rw[uC,hx];rfl
   rw[hx']
   have hm:=ux hx
   obtain⟨ok,sc⟩:=sd.ok x hm
   have fx:=Ao sd.fo x.1 (Qy.2 ⟨x,hm,rfl⟩)
   obtain⟨ad,a1,a2⟩:=sd.rd.EZ
   obtain⟨pe,_⟩:=a2 h (Ext.refl h) _ x hx
   have b1:=a1 (vq b.1 (l.map (·.1))).1 ⟨by omega,by omega⟩
   obtain⟨qq,f1,f2⟩:=pe.sV
   have e2:=f2 h (Ext.refl h) 2 _ rfl
   obtain⟨h',k2,g2,f',n',low⟩:=HE h x.2 vb x.1.vec b.2 ok.vec rv fx.1 hb hf
   have x':Ext h h':=fun i c q=>by rw[low i (h.lt _ _ q)];exact q
   have jl:(zP x.1.vec b.2).length=4:=by
    have:b.2.length=4:=by simp only[w8,uu,Qt]at hb;exact hb.1
    simp [zP,fx.2.1,this]
   have k3:=NJ h' (.aD (h.next+1) 0 4 1) x.2 (zP x.1.vec b.2) x.1.vec (Rd.obj g2 jl) (ok.vec.mono fun i c q=>x' i c q) (by omega) (by omega)
   refine⟨h',ta (fn:=AP.f306) (h2:=h') (e:=[(4,.bool (decide (zP x.1.vec b.2=x.1.vec)))]) (vs:=[.bool (decide (zP x.1.vec b.2=x.1.vec))]) rfl rfl rfl ?_ rfl,x',f',by omega⟩
   clear sd l0 l1 rv a1 a2 pe f2 ok x' low hx hx' hm
   generalize (vq b.1 (l.map (·.1))).1=K at *
   generalize decide (zP x.1.vec b.2=x.1.vec)=B at *
   simp (disch:=omega)only[go_sem,uX,AP.f306,pn,q0,q1,m0,m1,gS,QH,b1,f1,e2,k1,k2,k3]
structure PQ (h:H) (O:Nat) (y:vL):Prop where
 get:h.get O=some (uQ y)
 fl:h.floor≤O
theorem GD (h:H) (S M O:Nat) (v w:AV) (l:List vh) (sd:Sd h v w l) (gS:h.get S=some [v,w]) (x y:vL) (gM:h.get M=some (uQ x)) (gO:h.get O=some (uQ y)) (hO:h.floor≤O) (ne:S≠O∧M≠O) (sw:w.sc=true):
 aQ AP.A 300 [.aC S 0,.aC M 0,.aC O 0] h=some (.bool (!decide (vK (vw (l.map (·.1)))=x.m.root)),h.set O (uQ {y with m:={y.m with kind:=1},vd:=w})):=by
 have k1:=Gt h w _ sd.dg (by rw[vm];omega)
 unfold D6 at k1
 rw[CG,vm,dt rfl,QF,if_pos rfl]at k1
 obtain⟨h1,eh1⟩:∃g,g=h.set O (uQ {y with m:={y.m with kind:=1}}):=⟨_,rfl⟩
 have AZ:tD h O 0 1 [.int .i64 1] (some (uQ y))=some h1:=by rw[tV hO (by show 0<9;omega) rfl,eh1];rfl
 have g1:h1.get O=some (uQ {y with m:={y.m with kind:=1}}):=by rw[eh1,uZ rfl,gO];rfl
 have st2:tD h1 O 4 1 [w] (some (uQ {y with m:={y.m with kind:=1}}))=some (h.set O (uQ {y with m:={y.m with kind:=1},vd:=w})):=by rw[tV (by rw[eh1];simpa using hO) (by show 4<9;omega) sw,eh1,H.set_set];rfl
 have cw:=wK sw
 obtain⟨h2,eh2⟩:∃g,g=h.set O (uQ {y with m:={y.m with kind:=1},vd:=w}):=⟨_,rfl⟩
 have g2:h2.get M=some (uQ x):=by rw[eh2,uU ne.2];exact gM
 have e3:(uQ x)[3]?=some (.int .i64 x.m.root):=rfl
 rw[←eh2]at st2 ⊢
 refine ta (fn:=AP.f300) (h2:=h2) (e:=[(6,.bool (!decide (vK (vw (l.map (·.1)))=x.m.root)))]) (vs:=[.bool (!decide (vK (vw (l.map (·.1)))=x.m.root))]) rfl rfl rfl ?_ rfl
 clear sd
 generalize vK (vw (l.map (·.1)))=R at *
 generalize uQ x=X at *
 generalize uQ y=Y at *
 generalize uQ {y with m:={y.m with kind:=1}}=Y1 at *
 by_cases c:R=x.m.root
 · rw[dt c]
   simp (disch:=omega)only[go_sem,uX,AP.f300,uy,QH,gS,k1,gO,AZ,g1,cw,st2,g2,e3,Im c]
 · rw[df c]
   simp (disch:=omega)only[go_sem,uX,AP.f300,uy,QH,gS,k1,gO,AZ,g1,cw,st2,g2,e3,Mk c]
end Ab
