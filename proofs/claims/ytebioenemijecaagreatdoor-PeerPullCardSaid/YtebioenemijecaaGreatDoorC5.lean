/- Part C5. -/
import Derived.Test.YtebioenemijecaaGreatDoorC4
set_option linter.unusedSimpArgs false
set_option linter.unusedVariables false
set_option maxRecDepth 100000
namespace Ab
open Go
theorem LR {g:H} {v:AV} {cs:List AV} (r:Rd g v cs) (hi:v.id?=none) (f:Nat→Option (List AV)) (fl n:Nat) (t:Bool):snap f fl (n+1) t v=some v:=by
 obtain⟨r,hs⟩:=r
 cases v with
 |aH=>cases hi
 |aS=>rfl
 |aY=>rfl
 |str s=>exact absurd rfl (hs s)
 |_=>cases r
theorem GN (g:H) (f:Nat→Option (List AV)) (fl m:Nat) (t:Bool):∀l:List xN,(∀x∈l,yF g x∧x.2.id?=none)→gH (snap f fl (m+1) t) (xG l)=some (xG l)
 |[],_=>rfl
 | x :: l, h => by
   have ih:=GN g f fl m t l fun y hy=>h y (by simp [hy])
   obtain⟨q1,q2⟩:=h x (by simp)
   have k:=LR q1.vec q2 f fl m t
   show gH (snap f fl (m+1) t) (.str x.1.name:: .bool x.1.gone::x.2:: .int .i64 x.1.xL:: .int .i64 x.1.node:: .int .i64 x.1.method:: .str x.1.packed:: .int .i64 x.1.size:: .int .i64 x.1.Bd::xG l)=_
   have a:∀v,v=AV.str x.1.name∨v=.bool x.1.gone∨v=.int .i64 x.1.xL∨v=.int .i64 x.1.node∨v=.int .i64 x.1.method∨v=.str x.1.packed∨v=.int .i64 x.1.size∨v=.int .i64 x.1.Bd→snap f fl (m+1) t v=some v:=by
    rintro v (rfl|rfl|rfl|rfl|rfl|rfl|rfl|rfl)<;>rfl
   simp only[gH,k,a _ (.inl rfl),a _ (.inr (.inl rfl)),a _ (.inr (.inr (.inl rfl))),a _ (.inr (.inr (.inr (.inl rfl)))),a _ (.inr (.inr (.inr (.inr (.inl rfl))))),a _ (.inr (.inr (.inr (.inr (.inr (.inl rfl)))))),a _ (.inr (.inr (.inr (.inr (.inr (.inr (.inl rfl))))))),a _ (.inr (.inr (.inr (.inr (.inr (.inr (.inr rfl))))))),ih,wP]
   rfl
def Dp (l:List xN) (b:Nat):List xN:=l.filter fun x=>CI x.1==b
theorem J7 (l:List xN) (b:Nat):(Dp l b).map (·.1)=Ce (l.map (·.1)) b:=by unfold Dp Ce;rw[List.filter_map];rfl
theorem Hh {G : H} {bA b : Nat} {v : AV} {l : List xN} (fA : AX G bA v l) (fG : G.floor ≤ G.next) : ∀ (q p acc : List xN), l = p ++ q → acc.length ≤ p.length → ∀ (h : H) (ov : AV), Ext G h → G.next ≤ h.next → h.floor = G.floor → x8 9 h ov acc.length (xG acc) → (∀ j, ov.id? = some j → G.next ≤ j) →
 ∃e' h' ov',Lp AP.A [1,2,5,6] AP.f281L0 [(1,.int .i64 b),(2,.aG bA 0),(5,ov),(6,.int .i64 p.length)] h=some (.exit 0,e',h')∧ay e' [5]=[(5,ov')]∧h'.floor=G.floor∧x8 9 h' ov' (acc++Dp q b).length (xG (acc++Dp q b))
 | [], p, acc, hp, ha, h, ov, low, hn, hf, o, ho => by
   rw[aa2]at hp;subst hp
   have gA:=low _ _ fA.g
   have lnA:=fA.rd.len
   refine⟨[(1,.int .i64 b),(2,.aG bA 0),(5,ov),(6,.int .i64 l.length),(11,.bool false)],h,ov,u6 ?_,rfl,hf,by simpa [Dp]using o⟩
   clear fA low o
   simp (disch:=omega)only[go_sem,xF,AP.f281L0,gA,lnA]
 | x :: q, p, acc, hp, ha, h, ov, low, hn, hf, o, ho => by
   have hlen:l.length=p.length+(q.length+1):=by rw[hp];simp
   have hx:l[p.length]?=some x:=by rw[hp];simp
   have hm:=wX hx
   have gA:=low _ _ fA.g
   have lnA:=fA.rd.len
   have l6:=fA.len
   obtain⟨ad,a1,a2⟩:=fA.at_
   obtain⟨i1,i2,_⟩:=a1 p.length ⟨by omega,by omega⟩
   obtain⟨t1,_,t3⟩:=a2 h low p.length x hx
   have kb:=Gb h x.1.name (fA.ok x hm).1.nl
   rw[show((zT x.1.name%8:Nat):Int)=((CI x.1:Nat):Int)from rfl]at kb
   have w1:(((p++[x]).length:Nat):Int)=(p.length:Int)+1:=by simp
   have wa:IntKind.wrap .i64 ((p.length:Int)+1)=(p.length:Int)+1:=wi (by omega)
   have lt:(p.length:Int)<(l.length:Int):=by omega
   obtain⟨B,hB⟩:∃B,B=CI x.1:=⟨_,rfl⟩
   rw[←hB]at kb
   by_cases c:B=b
   · have lE:(xA x.1 x.2).length=9:=rfl
     have cE:AV.aE (xA x.1 x.2)=true:=yH (fA.ok x hm).2
     have fE:setFrom Z9 0 (xA x.1 x.2)=xA x.1 x.2:=rfl
     obtain⟨v',h2,p1,p2,p3,p4,p5,p6⟩:=o.push (by omega) (z:=104) (m:=1) (by omega) (by omega) (xA x.1 x.2) (by rw[lE]) cE (by simp [roomy];omega)
     have ea:xG acc++xA x.1 x.2=xG (acc++[x]):=by simp [xG,Jk]
     have el:acc.length+1=(acc++[x]).length:=by simp
     rw[ea,el]at p2
     have x2:Ext G h2:=fun i c q=>by
      have lt2:=G.lt _ _ q
      rw[p5 i (fun q2=>by have:=ho i q2;omega) (by omega)];exact low i c q
     obtain⟨e',h',ov',r1,r2,r3,r4⟩:=Hh (b:=b) fA fG q (p++[x]) (acc++[x]) (by rw[hp];simp) (by simp;omega) h2 v' x2 (by omega) (by omega) p2 (fun j q2=>by rw[p6]at q2;have:=wH q2;omega)
     rw[w1]at r1
     have e2:acc++Dp (x::q) b=(acc++[x])++Dp q b:=by unfold Dp;rw[aby,←hB,c];simp
     rw[e2]
     refine⟨e',h',ov',u9 ?_ r1,r2,r3,r4⟩
     have ci:(B:Int)=(b:Int):=by omega
     clear r1 r2 r3 r4 fA a1 a2 low o x2 p2 p5 hx hm hp e2 ea
     generalize xA x.1 x.2=E at *
     simp (disch:=omega)only[go_sem,xF,AP.f281L0,gA,lnA,dt lt,i1,i2,t1,t3,kb,ci,lE,cE,fE,p1,wa]
   · obtain⟨e',h',ov',r1,r2,r3,r4⟩:=Hh (b:=b) fA fG q (p++[x]) acc (by rw[hp];simp) (by simp;omega) h ov low hn hf o ho
     rw[w1]at r1
     have e2:acc++Dp (x::q) b=acc++Dp q b:=by unfold Dp;rw[aby,←hB,show(B==b)=false by simpa using c];simp
     rw[e2]
     refine⟨e',h',ov',u9 ?_ r1,r2,r3,r4⟩
     have ci:¬(B:Int)=(b:Int):=by omega
     clear r1 r2 r3 r4 fA a1 a2 low o hx hm hp e2
     simp (disch:=omega)only[go_sem,xF,AP.f281L0,gA,lnA,dt lt,i1,i2,t1,t3,kb,ci,wa]
theorem Ie (h:H) (v:AV) (l:List xN) (sv:v.sc=true) (rd:yM 9 h v l.length (xG l)) (hv:∀x∈l,yF h x∧x.2.sc=true) (hi:∀x∈l,x.2.id?=none) (cA:yh (l.map (·.1))=true) (b:Nat):aU AP.A 281 [.agg [v],.int .i64 b] h=some (CG 9 (Dp l b).length (xG (Dp l b)),h):=by
 obtain⟨h1,eh1⟩:∃g,g=h.eO.alloc [v]:=⟨_,rfl⟩
 have n0:h.eO.next=h.next:=rfl
 have n1:h1.next=h.next+1:=by rw[eh1];simp
 have f1:h1.floor=h.next:=by rw[eh1];simp
 have x1:Ext h h1:=fun i c q=>by rw[eh1];exact((Ext.refl h.eO).alloc _) i c q
 have gA:h1.get h.next=some [v]:=by rw[eh1];exact xE rfl
 have fA:AX h1 h.next v l:=⟨gA,sv,rd.mono fun i c q=>x1 i c q,fun z hz=>⟨(hv z hz).1.mono x1,(hv z hz).2⟩,cA⟩
 obtain⟨e',h2,ov,r1,r2,r3,r4⟩:=Hh (b:=b) fA (by omega) l [] [] rfl (wU _) h1 .aS (Ext.refl _) (wU _) rfl x8.nil (fun j q=>by cases q)
 have r1':Lp AP.A [1,2,5,6] AP.f281L0 [(1,.int .i64 b),(2,.aG h.next 0),(5,.aS),(6,.int .i64 0)] h1=some (.exit 0,e',h2):=r1
 rw[abB]at r4
 refine vP (fn:=AP.f281) (h2:=h2) (e:=[(4,ov)]) (vs:=[ov]) rfl rfl rfl ?_ rfl ?_
 · clear rd hv fA r1 r4
   simp (disch:=omega)only[go_sem,xF,AP.f281,sv,n0,←eh1,uo,r1',r2]
 · have okI:∀x∈Dp l b,yF h x∧x.2.id?=none:=fun x hx=>⟨(hv x (abr.1 hx).1).1,hi x (abr.1 hx).1⟩
   obtain⟨q0,⟨q1,q2⟩|⟨j,q1,q2,q3,q4⟩⟩:=r4
   · rw[q1,q2];rfl
   · rw[q1]
     unfold CG
     rw[if_neg (by omega)]
     show(if j<h.next then _ else _)=_
     rw[if_neg (by omega),q2,wP,if_pos (by omega),aa8,xj (by omega),GN h _ _ _ _ _ okI]
     rfl
theorem PK (g:H) (l:List xN):yM 9 g (CG 9 l.length (xG l)) l.length (xG l):=FD (by rw[yQ])
def PA (A B:List xP) (b:Nat):Bool:=decide (xZ (yO A b)=xZ (yO B b))&& !decide (Ce A b=Ce B b)
theorem JN {G : H} {bA bB : Nat} {v w : AV} {l m : List xN} (fA : AX G bA v l) (fB : AX G bB w m) (iA : ∀ x ∈ l, x.2.id? = none) (iB : ∀ x ∈ m, x.2.id? = none) : ∀ (n i : Nat), i + n = 8 →
 (∃e',Lp AP.A [2,3,5,7,13] AP.f245L0 [(2,.aG bA 0),(3,.aG bB 0),(5,xU (xQ (l.map (·.1)))),(7,xU (xQ (m.map (·.1)))),(13,.int .i64 i)] G=some (.exit 0,e',G)∧((List.range' i n).any fun b=>PA (l.map (·.1)) (m.map (·.1)) b)=false)∨
 (Lp AP.A [2,3,5,7,13] AP.f245L0 [(2,.aG bA 0),(3,.aG bB 0),(5,xU (xQ (l.map (·.1)))),(7,xU (xQ (m.map (·.1)))),(13,.int .i64 i)] G=some (.ret,[(4,.bool true)],G)∧((List.range' i n).any fun b=>PA (l.map (·.1)) (m.map (·.1)) b)=true)
 | 0, i, hi => by
   obtain rfl:i=8:=by omega
   left
   generalize xU (xQ (l.map (·.1)))=VA at *
   generalize xU (xQ (m.map (·.1)))=VB at *
   refine⟨[(2,.aG bA 0),(3,.aG bB 0),(5,VA),(7,VB),(13,.int .i64 8),(54,.bool false)],u6 ?_,rfl⟩
   clear fA fB iA iB
   simp (disch:=omega)only[go_sem,xF,AP.f245L0]
 | n + 1, i, hi => by
   have ih:=JN fA fB iA iB n (i+1) (by omega)
   have gA:=fA.g
   have gB:=fB.g
   have kA:=Ie G v l fA.sv fA.rd fA.ok iA fA.may i
   have kB:=Ie G w m fB.sv fB.rd fB.ok iB fB.may i
   have okA:∀x∈Dp l i,yF G x∧x.2.sc=true:=fun x hx=>fA.ok x (abr.1 hx).1
   have okB:∀x∈Dp m i,yF G x∧x.2.sc=true:=fun x hx=>fB.ok x (abr.1 hx).1
   have lA:(Dp l i).length≤l.length:=abv _ _
   have l6:=fA.len
   have ks:=FK G _ _ (Dp l i) (Dp m i) (by omega) (PK G _) (PK G _) okA okB
   rw[J7,J7]at ks
   have dA:=Ev (l.map (·.1)) (b:=i) (by omega)
   have dB:=Ev (m.map (·.1)) (b:=i) (by omega)
   obtain⟨ad,a1,a2⟩:=(y8 G (xQ (l.map (·.1)))).yL
   obtain⟨bd,b1,b2⟩:=(y8 G (xQ (m.map (·.1)))).yL
   have i1:=a1 i ⟨by omega,by rw[x9];omega⟩
   have j1:=b1 i ⟨by omega,by rw[x9];omega⟩
   have i2:=a2 G (Ext.refl G) i _ dA
   have j2:=b2 G (Ext.refl G) i _ dB
   have w1:((i+1:Nat):Int)=(i:Int)+1:=by omega
   have wa:IntKind.wrap .i64 ((i:Int)+1)=(i:Int)+1:=wi (by omega)
   have lt:(i:Int)<8:=by omega
   rw[w1]at ih
   rw[List.range'_succ,List.any_cons]
   have eC:PA (l.map (·.1)) (m.map (·.1)) i=(decide (xZ (yO (l.map (·.1)) i)=xZ (yO (m.map (·.1)) i))&& !decide (Ce (l.map (·.1)) i=Ce (m.map (·.1)) i)):=rfl
   have sA:(CG 9 (Dp l i).length (xG (Dp l i))).sc=true:=FM _ _ _
   have step:PA (l.map (·.1)) (m.map (·.1)) i=false→aO (aU AP.A) bH AP.f245L0 (ay [(2,.aG bA 0),(3,.aG bB 0),(5,xU (xQ (l.map (·.1)))),(7,xU (xQ (m.map (·.1)))),(13,.int .i64 i)] [2,3,5,7,13]) G=some (.normal,[(2,.aG bA 0),(3,.aG bB 0),(5,xU (xQ (l.map (·.1)))),(7,xU (xQ (m.map (·.1)))),(13,.int .i64 ((i:Int)+1))],G):=fun hc=>by
    rw[eC]at hc
    clear ih fA fB a1 a2 b1 b2 okA okB dA dB eC
    generalize CG 9 (Dp l i).length (xG (Dp l i))=SA at *
    generalize CG 9 (Dp m i).length (xG (Dp m i))=SB at *
    generalize xU (xQ (l.map (·.1)))=VA at *
    generalize xU (xQ (m.map (·.1)))=VB at *
    generalize xZ (yO (l.map (·.1)) i)=MA at *
    generalize xZ (yO (m.map (·.1)) i)=MB at *
    generalize decide (Ce (l.map (·.1)) i=Ce (m.map (·.1)) i)=D at *
    by_cases c:MA=MB
    · rw[dt c,aa3]at hc
      cases D with
      |false=>cases hc
      |true=>simp (disch:=omega)only[go_sem,xF,AP.f245L0,dt lt,i1,i2,j1,j2,c,gA,gB,yx,kA,kB,ks,wa]
    · simp (disch:=omega)only[go_sem,xF,AP.f245L0,dt lt,i1,i2,j1,j2,c,gA,gB,yx,kA,kB,ks,wa]
   cases hc:PA (l.map (·.1)) (m.map (·.1)) i with
   | false =>
     rw[abp]
     rcases ih with ⟨e',r1,r2⟩|⟨r1,r2⟩
     · exact .inl ⟨e',u9 (step hc) r1,r2⟩
     · exact .inr ⟨u9 (step hc) r1,r2⟩
   | true =>
     right
     refine⟨vF ?_,rfl⟩
     rw[eC,wT]at hc
     obtain⟨c1,c2⟩:=hc
     have c1':=of_decide_eq_true c1
     clear ih fA fB a1 a2 b1 b2 okA okB dA dB eC step c1
     generalize CG 9 (Dp l i).length (xG (Dp l i))=SA at *
     generalize CG 9 (Dp m i).length (xG (Dp m i))=SB at *
     generalize xU (xQ (l.map (·.1)))=VA at *
     generalize xU (xQ (m.map (·.1)))=VB at *
     generalize xZ (yO (l.map (·.1)) i)=MA at *
     generalize xZ (yO (m.map (·.1)) i)=MB at *
     generalize decide (Ce (l.map (·.1)) i=Ce (m.map (·.1)) i)=D at *
     cases D with
     |true=>cases c2
     |false=>simp (disch:=omega)only[go_sem,xF,AP.f245L0,dt lt,i1,i2,j1,j2,c1',gA,gB,yx,kA,kB,ks,wa]
theorem JO (h : H) (v w : AV) (l m : List xN) (sv : v.sc = true) (sw : w.sc = true) (rd : yM 9 h v l.length (xG l)) (rw_ : yM 9 h w m.length (xG m)) (hv : ∀ x ∈ l, yF h x ∧ x.2.sc = true) (hw : ∀ x ∈ m, yF h x ∧ x.2.sc = true) (iA : ∀ x ∈ l, x.2.id? = none) (iB : ∀ x ∈ m, x.2.id? = none) (cA : yh (l.map (·.1)) = true) (cB : yh (m.map (·.1)) = true) :
 aU AP.A 245 [.agg [v],.agg [w]] h=some (.bool (zJ (l.map (·.1)) (m.map (·.1))),h):=by
 obtain⟨h1,eh1⟩:∃g,g=h.eO.alloc [v]:=⟨_,rfl⟩
 obtain⟨h2,eh2⟩:∃g,g=h1.alloc [w]:=⟨_,rfl⟩
 have n0:h.eO.next=h.next:=rfl
 have n1:h1.next=h.next+1:=by rw[eh1];simp
 have x2:Ext h h2:=fun i c q=>by rw[eh2,eh1];exact(((Ext.refl h.eO).alloc _).alloc _) i c q
 have gA:h2.get h.next=some [v]:=by rw[eh2,xI (by omega),eh1];exact xE rfl
 have gB:h2.get (h.next+1)=some [w]:=by rw[eh2,xE (by omega)]
 have fA:AX h2 h.next v l:=⟨gA,sv,rd.mono fun i c q=>x2 i c q,fun z hz=>⟨(hv z hz).1.mono x2,(hv z hz).2⟩,cA⟩
 have fB:AX h2 (h.next+1) w m:=⟨gB,sw,rw_.mono fun i c q=>x2 i c q,fun z hz=>⟨(hw z hz).1.mono x2,(hw z hz).2⟩,cB⟩
 have l6:=fA.len
 have m6:=fB.len
 have kA:=JW h2 v l sv (by omega) fA.rd fA.ok
 have kB:=JW h2 w m sw (by omega) fB.rd fB.ok
 unfold Mz at kA kB
 rw[if_pos cA]at kA
 rw[if_pos cB]at kB
 have lp:=JN fA fB iA iB 8 0 rfl
 have eB:zJ (l.map (·.1)) (m.map (·.1))=((decide (xZ (xQ (l.map (·.1)))=xZ (xQ (m.map (·.1))))&& !decide (xQ (l.map (·.1))=xQ (m.map (·.1))))||(List.range' 0 8).any fun b=>PA (l.map (·.1)) (m.map (·.1)) b):=by unfold zJ PA;rw[List.range_eq_range']
 rw[eB]
 obtain⟨DA,hDA⟩:∃D,D=xQ (l.map (·.1)):=⟨_,rfl⟩
 obtain⟨DB,hDB⟩:∃D,D=xQ (m.map (·.1)):=⟨_,rfl⟩
 have lA:DA.length=8:=by rw[hDA];exact x9 _
 have lB:DB.length=8:=by rw[hDB];exact x9 _
 have aA:DA.all Bp=true:=by rw[hDA];exact Ca _
 have aB:DB.all Bp=true:=by rw[hDB];exact Ca _
 rw[←hDA]at kA lp ⊢
 rw[←hDB]at kB lp ⊢
 have rA:=Kz h2 (xU DA) DA (y8 _ _) (by omega)
 have rB:=Kz h2 (xU DB) DB (y8 _ _) (by omega)
 unfold FJ at rA rB
 rw[if_pos (by rw[aA,lA];rfl)]at rA
 rw[if_pos (by rw[aB,lB];rfl)]at rB
 have ks:=KD h2 (xU DA) (xU DB) DA DB (y8 _ _) (y8 _ _) (by omega)
 have nA:=(y8 h2 DA).len
 have nB:=(y8 h2 DB).len
 rw[rk,lA]at nA
 rw[rk,lB]at nB
 have nA':jQ false (xU DA)=some (.int .i64 8):=nA
 have nB':jQ false (xU DB)=some (.int .i64 8):=nB
 obtain⟨X,hX⟩:∃X,X=((List.range' 0 8).any fun b=>PA (l.map (·.1)) (m.map (·.1)) b):=⟨_,rfl⟩
 rw[←hX]at lp ⊢
 clear eB hX hDA hDB
 have sA:(xU DA).sc=true:=rfl
 have sB:(xU DB).sc=true:=rfl
 generalize xU DA=VA at *
 generalize xU DB=VB at *
 have cVA:=ye sA
 have cVB:=ye sB
 by_cases c1:xZ DA=xZ DB
 · by_cases c2:DA=DB
   · rw[dt c2]at ks ⊢
     rw[Bool.not_true,aa9,abp]
     rcases lp with ⟨e',r1,r2⟩|⟨r1,r2⟩
     · have r1':Lp AP.A [2,3,5,7,13] AP.f245L0 [(2,.aG h.next 0),(3,.aG (h.next+1) 0),(5,VA),(7,VB),(13,.int .i64 0)] h2=some (.exit 0,e',h2):=r1
       rw[r2]
       refine vP (fn:=AP.f245) (h2:=h2) (e:=[(4,.bool false)]) rfl rfl rfl ?_ rfl rfl
       clear rd hv rw_ hw x2 fA fB r1
       simp (disch:=omega)only[go_sem,xF,AP.f245,sv,sw,n0,←eh1,n1,←eh2,gA,gB,yx,kA,kB,rA,rB,c1,ks,nA',nB',uo,r1']
     · have r1':Lp AP.A [2,3,5,7,13] AP.f245L0 [(2,.aG h.next 0),(3,.aG (h.next+1) 0),(5,VA),(7,VB),(13,.int .i64 0)] h2=some (.ret,[(4,.bool true)],h2):=r1
       rw[r2]
       refine vP (fn:=AP.f245) (h2:=h2) (e:=[(4,.bool true)]) rfl rfl rfl ?_ rfl rfl
       clear rd hv rw_ hw x2 fA fB r1
       simp (disch:=omega)only[go_sem,xF,AP.f245,sv,sw,n0,←eh1,n1,←eh2,gA,gB,yx,kA,kB,rA,rB,c1,ks,nA',nB',uo,r1']
   · rw[df c2]at ks ⊢
     rw[dt c1,Bool.not_false,aa3,Bool.true_or]
     refine vP (fn:=AP.f245) (h2:=h2) (e:=[(4,.bool true)]) rfl rfl rfl ?_ rfl rfl
     clear rd hv rw_ hw x2 fA fB lp
     simp (disch:=omega)only[go_sem,xF,AP.f245,sv,sw,n0,←eh1,n1,←eh2,gA,gB,yx,kA,kB,rA,rB,c1,ks,nA',nB']
 · rw[df c1,aa4,abp]
   rcases lp with ⟨e',r1,r2⟩|⟨r1,r2⟩
   · have r1':Lp AP.A [2,3,5,7,13] AP.f245L0 [(2,.aG h.next 0),(3,.aG (h.next+1) 0),(5,VA),(7,VB),(13,.int .i64 0)] h2=some (.exit 0,e',h2):=r1
     rw[r2]
     refine vP (fn:=AP.f245) (h2:=h2) (e:=[(4,.bool false)]) rfl rfl rfl ?_ rfl rfl
     clear rd hv rw_ hw x2 fA fB r1 ks
     simp (disch:=omega)only[go_sem,xF,AP.f245,sv,sw,n0,←eh1,n1,←eh2,gA,gB,yx,kA,kB,rA,rB,c1,nA',nB',uo,r1']
   · have r1':Lp AP.A [2,3,5,7,13] AP.f245L0 [(2,.aG h.next 0),(3,.aG (h.next+1) 0),(5,VA),(7,VB),(13,.int .i64 0)] h2=some (.ret,[(4,.bool true)],h2):=r1
     rw[r2]
     refine vP (fn:=AP.f245) (h2:=h2) (e:=[(4,.bool true)]) rfl rfl rfl ?_ rfl rfl
     clear rd hv rw_ hw x2 fA fB r1 ks
     simp (disch:=omega)only[go_sem,xF,AP.f245,sv,sw,n0,←eh1,n1,←eh2,gA,gB,yx,kA,kB,rA,rB,c1,nA',nB',uo,r1']
structure Arg (v:AV) (l:List xN):Prop where
 sc:v.sc=true
 rd:∀g,yM 9 g v l.length (xG l)
 ok:∀g,∀x∈l,yF g x∧x.2.sc=true
 im:∀x∈l,x.2.id?=none
 may:yh (l.map (·.1))=true
theorem Arg.len {v:AV} {l:List xN} (a:Arg v l):l.length≤6:=by
 have hm:=yB a.may
 unfold yK at hm
 rw[wT,aa1,aa0]at hm
 exact hm.2
theorem Arg.all {v:AV} {l:List xN} (a:Arg v l) (g:H):∀x∈l,yF g x∧x.2.sc=true∧yi x.1=true:=fun x hx=>by
 have:=a.may
 unfold yh at this
 rw[wT,aba]at this
 exact⟨(a.ok g x hx).1,(a.ok g x hx).2,this.2 x.1 (aa6.2 ⟨x,hx,rfl⟩)⟩
def Jy (bA bB W O T:Nat) (e i:Int):Env:=[(2,.aG bA 0),(3,.aG bB 0),(5,.aG W 0),(6,.int .i64 e),(7,.aG O 0),(9,.aG T 0),(10,.int .i64 i)]
def Zb (bA bB W T:Nat) (e:Int):Env:=[(2,.aG bA 0),(3,.aG bB 0),(5,.aG W 0),(6,.int .i64 e),(9,.aG T 0)]
structure PG (h:H) (bA bB W T:Nat) (v w wv tv:AV):Prop where
 gA:h.get bA=some [v]
 gB:h.get bB=some [w]
 gW:h.get W=some [wv]
 gT:h.get T=some [tv]
set_option maxHeartbeats 8000000 in
theorem EA {bA bB W T O:Nat} {v w wv tv:AV} {l m:List xN} (aA:Arg v l) (aB:Arg w m) {h:H} (g:PG h bA bB W T v w wv tv) (y:yT) (gO:h.get O=some (xz y)) (oy:B0 h y) (nO:bA≠O∧bB≠O∧W≠O∧T≠O) (fh:h.floor≤h.next) (fO:h.floor≤O) (e i:Int) (hi:0≤i∧i<5) (k4:y.m.kind≠4)
 {u:AV} {L:List xN} (own:(y.m.dst=1∧u=w∧L=m)∨(y.m.dst≠1∧u=v∧L=l)) (r2:(zk (L.map (·.1)) y.m).2.2=0):
 ∃ h', h'.floor = h.floor ∧ h.next ≤ h'.next ∧ PG h' bA bB W T v w wv tv ∧
   ((zk (L.map (·.1)) y.m).2.1=false→∃E,aO (aU AP.A) bH AP.f223L0 (Jy bA bB W O T e i) h=some (.exit 0,E,h')∧ay E [2,3,5,6,9]=Zb bA bB W T e)∧
   ((zk (L.map (·.1)) y.m).2.1=true→aO (aU AP.A) bH AP.f223L0 (Jy bA bB W O T e i) h=some (.normal,Jy bA bB W O T e (i+1),h')∧∃y',h'.get O=some (xz y')∧B0 h' y'∧y'.m=(zk (L.map (·.1)) y.m).1):=by
 have aL:Arg u L:=by
  rcases own with ⟨_,rfl,rfl⟩|⟨_,rfl,rfl⟩
  · exact aB
  · exact aA
 have gA:=g.gA
 have gB:=g.gB
 obtain⟨N,hN⟩:∃N,N=h.next:=⟨_,rfl⟩
 obtain⟨h1,eh1⟩:∃g,g=h.alloc [.aS]:=⟨_,rfl⟩
 obtain⟨h2,eh2⟩:∃g,g=h1.set N [v]:=⟨_,rfl⟩
 obtain⟨h3,eh3⟩:∃g,g=if y.m.dst=1 then h2.set N [w]else h2:=⟨_,rfl⟩
 have f1:h1.floor=h.floor:=by rw[eh1];simp
 have f2:h2.floor=h.floor:=by rw[eh2];simp [f1]
 have f3:h3.floor=h.floor:=by rw[eh3];split<;>simp [f2]
 have n1:h1.next=N+1:=by rw[eh1,hN];simp
 have n2:h2.next=N+1:=by rw[eh2];simp [n1]
 have n3:h3.next=N+1:=by rw[eh3];split<;>simp [n2]
 have z1:h1.get N=some [.aS]:=by rw[eh1,xE hN]
 have z2:h2.get N=some [v]:=by rw[eh2,xH rfl,z1];rfl
 have z3:h3.get N=some [u]:=by
  rw[eh3]
  rcases own with ⟨q,rfl,_⟩|⟨q,rfl,_⟩
  · rw[if_pos q,xH rfl,z2];rfl
  · rw[if_neg q];exact z2
 have low2:∀k,k<N→h2.get k=h.get k:=fun k hk=>by rw[eh2,xC (by omega),eh1,xI (by omega)]
 have low3:∀k,k<N→h3.get k=h.get k:=fun k hk=>by
  rw[eh3]
  split
  · rw[xC (by omega),low2 k hk]
  · exact low2 k hk
 have x3:Ext h h3:=fun k c q=>by have:=h.lt _ _ q;rw[low3 k (by omega)];exact q
 have st2:vR h1 N 0 1 [v] (some [.aS])=some h2:=by rw[wx (by omega) (by simp) aA.sc,eh2];rfl
 have lO:=h.lt _ _ gO
 have lA:=h.lt _ _ gA
 have lB:=h.lt _ _ gB
 have lW:=h.lt _ _ g.gW
 have lT:=h.lt _ _ g.gT
 have gO3:h3.get O=some (xz y):=x3 _ _ gO
 have gO2:h2.get O=some (xz y):=by rw[low2 _ (by omega)];exact gO
 have gB2:h2.get bB=some [w]:=by rw[low2 _ (by omega)];exact gB
 obtain⟨y7,w7,A7,G7,O7,k7,m7,a7,n7,ga7,st7,go7,e7,ok7,f7,l7,l7',wm7⟩:=Md h3 (by omega) u L aL.sc (by have:=aL.len;omega) (aL.rd _) (aL.ok _) y (oy.mono x3)
 obtain⟨R,hR⟩:∃R,R=zk (L.map (·.1)) y.m:=⟨_,rfl⟩
 rw[←hR]at k7 m7 r2 ⊢
 rw[r2]at k7
 obtain⟨h5,eh5⟩:∃g,g=G7.set O (xz y7):=⟨_,rfl⟩
 have gO7:G7.get O=some (xz y):=e7 _ _ gO3
 have st5:vR G7 O 0 9 (xz y7) (some (xz y))=some h5:=by rw[eh5];exact yl (by omega) rfl rfl (Aj ok7)
 have pg:PG G7 bA bB W T v w wv tv:=⟨e7 _ _ (x3 _ _ gA),e7 _ _ (x3 _ _ gB),e7 _ _ (x3 _ _ g.gW),e7 _ _ (x3 _ _ g.gT)⟩
 have d0:(xz y)[0]?=some (.int .i64 y.m.kind):=rfl
 have d2:(xz y)[2]?=some (.int .i64 y.m.dst):=rfl
 have ry:iO true 9 (xz y) 0=some (.agg (xz y)):=rfl
 have ry7:iO true 9 (xz y7) 0=some (.agg (xz y7)):=rfl
 have cy:AV.aE (xz y)=true:=Aj oy
 have c7:AV.aE (xz y7)=true:=Aj ok7
 have ly:(xz y).length=9:=rfl
 have ly7:(xz y7).length=9:=rfl
 have kn:=fun (g:H) n=>Na g n
 simp only[I]at kn
 have z0:([.int .i64 0,.int .i64 0,.int .i64 0,.int .i64 0,.aS,.aS,.aS,.aS,.aS]:List AV)=xz yc:=rfl
 have cz:AV.aE (xz yc)=true:=rfl
 have sv:=aA.sc
 have sw:=aB.sc
 have su:=aL.sc
 have cv:=ye sv
 have cw:=ye sw
 have wa:IntKind.wrap .i64 (i+1)=i+1:=wi (by omega)
 have hN':=hN.symm
 have e1:=eh1.symm
 have st3:y.m.dst=1→vR h2 N 0 1 [w] (some [v])=some h3:=fun q=>by rw[eh3,if_pos q,wx (by omega) (by simp) sw];rfl
 have s3:y.m.dst≠1→h3=h2:=fun q=>by rw[eh3,if_neg q]
 clear oy aA aB aL hR eh3
 cases hr:R.2.1 with
 | false =>
   refine⟨G7,by omega,by omega,pg,fun _=> ?_,fun q=>by cases q⟩
   rw[hr]at k7
   clear ok7 e7 x3 wm7 low2 low3
   refine⟨[(2,.aG bA 0),(3,.aG bB 0),(5,.aG W 0),(6,.int .i64 e),(7,.aG O 0),(9,.aG T 0),(10,.int .i64 i),(14,.aG O7 0),(88,.bool true)], ?_,rfl⟩
   unfold Jy
   by_cases hd:y.m.dst=1
   · have st3:=st3 hd
     generalize xz y=Y at *
     generalize xz y7=Y7 at *
     simp (disch:=omega)only[go_sem,xF,AP.f223L0,dt hi.2,gA,yx,e1,hN',z1,cv,sv,st2,gO2,d2,hd,gB2,z2,cw,sw,st3,gO3,d0,k4,z3,ry,cy,ly,k7,z0,cz,a7,n7,ga7,ly7,c7,st7,kn]
   · have s3:=s3 hd
     subst s3
     generalize xz y=Y at *
     generalize xz y7=Y7 at *
     simp (disch:=omega)only[go_sem,xF,AP.f223L0,dt hi.2,gA,yx,e1,hN',z1,cv,sv,st2,gO2,d2,hd,d0,k4,z3,ry,cy,ly,k7,z0,cz,a7,n7,ga7,ly7,c7,st7,kn]
 | true =>
   have ok5:B0 h5 y7:=B0.Yl wm7 ok7 fun k c q1 q2=>by rw[eh5,xC (by omega)];exact q2
   have gO5:h5.get O=some (xz y7):=by rw[eh5,xH rfl,gO7];rfl
   have pg5:PG h5 bA bB W T v w wv tv:=⟨by rw[eh5,xC nO.1];exact pg.gA,by rw[eh5,xC nO.2.1];exact pg.gB,by rw[eh5,xC nO.2.2.1];exact pg.gW,by rw[eh5,xC nO.2.2.2];exact pg.gT⟩
   refine⟨h5,by rw[eh5];simp;omega,by rw[eh5];simp;omega,pg5,fun q=>(by cases q),fun _=>⟨?_,y7,gO5,ok5,by assumption⟩⟩
   rw[hr]at k7
   clear ok7 ok5 e7 x3 wm7 low2 low3 gO5 pg5
   unfold Jy
   by_cases hd:y.m.dst=1
   · have st3:=st3 hd
     generalize xz y=Y at *
     generalize xz y7=Y7 at *
     simp (disch:=omega)only[go_sem,xF,AP.f223L0,dt hi.2,gA,yx,e1,hN',z1,cv,sv,st2,gO2,d2,hd,gB2,z2,cw,sw,st3,gO3,d0,k4,z3,ry,cy,ly,k7,z0,cz,a7,n7,ga7,ly7,c7,st7,kn,go7,ry7,gO7,st5,wa]
   · have s3:=s3 hd
     subst s3
     generalize xz y=Y at *
     generalize xz y7=Y7 at *
     simp (disch:=omega)only[go_sem,xF,AP.f223L0,dt hi.2,gA,yx,e1,hN',z1,cv,sv,st2,gO2,d2,hd,d0,k4,z3,ry,cy,ly,k7,z0,cz,a7,n7,ga7,ly7,c7,st7,kn,go7,ry7,gO7,st5,wa]
set_option maxHeartbeats 8000000 in
theorem O3 {bA bB W T O:Nat} {v w wv:AV} {l m:List xN} (aA:Arg v l) (aB:Arg w m) {h:H} (g:PG h bA bB W T v w wv w) (y:yT) (gO:h.get O=some (xz y)) (oy:B0 h y) (nT:bA≠T∧bB≠T∧W≠T) (fh:h.floor≤h.next) (fT:h.floor≤T) (e i:Int) (hi:0≤i∧i<5) (k4:y.m.kind=4) (hd:y.m.dst=1)
 (y6:y.m.yJ.length≤6) (ym:∀x∈y.m.yJ,yi x=true):
 ∃ h', h'.floor = h.floor ∧ h.next ≤ h'.next ∧
   ((y.m.yJ.foldl zr (m.map (·.1))).length≤6→PG h' bA bB W T v w wv (zW (y.m.yJ.foldl zr (m.map (·.1))))∧∃E,aO (aU AP.A) bH AP.f223L0 (Jy bA bB W O T e i) h=some (.exit 0,E,h')∧ay E [2,3,5,6,9]=Zb bA bB W T e)∧
   (¬(y.m.yJ.foldl zr (m.map (·.1))).length≤6→aO (aU AP.A) bH AP.f223L0 (Jy bA bB W O T e i) h=some (.ret,[(4,.bool (decide (e≠0)||zJ (l.map (·.1)) (m.map (·.1))))],h')):=by
 have gA:=g.gA
 have gB:=g.gB
 obtain⟨N,hN⟩:∃N,N=h.next:=⟨_,rfl⟩
 obtain⟨h1,eh1⟩:∃g,g=h.alloc [.aS]:=⟨_,rfl⟩
 obtain⟨h2,eh2⟩:∃g,g=h1.set N [v]:=⟨_,rfl⟩
 obtain⟨h3,eh3⟩:∃g,g=h2.set N [w]:=⟨_,rfl⟩
 obtain⟨h4,eh4⟩:∃g,g=h3.alloc [.aS]:=⟨_,rfl⟩
 have f1:h1.floor=h.floor:=by rw[eh1];simp
 have f2:h2.floor=h.floor:=by rw[eh2];simp [f1]
 have f3:h3.floor=h.floor:=by rw[eh3];simp [f2]
 have f4:h4.floor=h.floor:=by rw[eh4];simp [f3]
 have n1:h1.next=N+1:=by rw[eh1,hN];simp
 have n2:h2.next=N+1:=by rw[eh2];simp [n1]
 have n3:h3.next=N+1:=by rw[eh3];simp [n2]
 have n4:h4.next=N+2:=by rw[eh4];simp [n3]
 have z1:h1.get N=some [.aS]:=by rw[eh1,xE hN]
 have z2:h2.get N=some [v]:=by rw[eh2,xH rfl,z1];rfl
 have low2:∀k,k<N→h2.get k=h.get k:=fun k hk=>by rw[eh2,xC (by omega),eh1,xI (by omega)]
 have low3:∀k,k<N→h3.get k=h.get k:=fun k hk=>by rw[eh3,xC (by omega),low2 k hk]
 have low4:∀k,k<N→h4.get k=h.get k:=fun k hk=>by rw[eh4,xI (by omega),low3 k hk]
 have x3:Ext h h3:=fun k c q=>by have:=h.lt _ _ q;rw[low3 k (by omega)];exact q
 have st2:vR h1 N 0 1 [v] (some [.aS])=some h2:=by rw[wx (by omega) (by simp) aA.sc,eh2];rfl
 have st3:vR h2 N 0 1 [w] (some [v])=some h3:=by rw[wx (by omega) (by simp) aB.sc,eh3];rfl
 have lO:=h.lt _ _ gO
 have lA:=h.lt _ _ gA
 have lB:=h.lt _ _ gB
 have lW:=h.lt _ _ g.gW
 have lT:=h.lt _ _ g.gT
 have gO2:h2.get O=some (xz y):=by rw[low2 _ (by omega)];exact gO
 have gO3:h3.get O=some (xz y):=by rw[low3 _ (by omega)];exact gO
 have gB2:h2.get bB=some [w]:=by rw[low2 _ (by omega)];exact gB
 have gB3:h3.get bB=some [w]:=by rw[low3 _ (by omega)];exact gB
 have oy3:=oy.mono x3
 have es6:y.es.length≤6:=by have:=abt List.length oy.he;rw[aa0]at this;omega
 have km:=Fp h3 w y.ve m y.es aB.sc (aB.rd _) (aB.ok _) aB.may oy3.re (fun x hx=>⟨(oy3.ve x hx).1,(oy3.ve x hx).2,ym x.1 (by rw[←oy.he];exact aa6.2 ⟨x,hx,rfl⟩)⟩) (by omega)
 rw[oy.he]at km
 obtain⟨F,hF⟩:∃F,F=y.m.yJ.foldl zr (m.map (·.1)):=⟨_,rfl⟩
 rw[←hF]at km ⊢
 have d0:(xz y)[0]?=some (.int .i64 y.m.kind):=rfl
 have d2:(xz y)[2]?=some (.int .i64 y.m.dst):=rfl
 have d8:(xz y)[8]?=some y.ve:=rfl
 have z4:h4.get (N+1)=some [.aS]:=by rw[eh4,xE n3.symm]
 have sv:=aA.sc
 have sw:=aB.sc
 have cv:=ye sv
 have cw:=ye sw
 have hN':=hN.symm
 have e1:=eh1.symm
 have e4:=eh4.symm
 by_cases c:F.length≤6
 · have km':aU AP.A 244 [.agg [w],y.ve] h3=some (.bW [.agg [zW F],.int .i64 0],h3):=by rw[km];unfold Dt;rw[if_pos c]
   have sF:=Dl F
   have cF:=ye sF
   obtain⟨h5,eh5⟩:∃g,g=h4.set (N+1) [zW F]:=⟨_,rfl⟩
   obtain⟨h6,eh6⟩:∃g,g=h5.set T [zW F]:=⟨_,rfl⟩
   have f5:h5.floor=h.floor:=by rw[eh5];simp [f4]
   have st5:vR h4 (N+1) 0 1 [zW F] (some [.aS])=some h5:=by rw[wx (by omega) (by simp) sF,eh5];rfl
   have z5:h5.get (N+1)=some [zW F]:=by rw[eh5,xH rfl,z4];rfl
   have low5:∀k,k<N→h5.get k=h.get k:=fun k hk=>by rw[eh5,xC (by omega),low4 k hk]
   have gT5:h5.get T=some [w]:=by rw[low5 _ (by omega)];exact g.gT
   have st6:vR h5 T 0 1 [zW F] (some [w])=some h6:=by rw[wx (by omega) (by simp) sF,eh6];rfl
   refine⟨h6,by rw[eh6];simp [f5],by rw[eh6,eh5];simp [n4];omega,fun _=>⟨⟨by rw[eh6,xC nT.1,low5 _ (by omega)];exact gA,by rw[eh6,xC nT.2.1,low5 _ (by omega)];exact gB,by rw[eh6,xC nT.2.2,low5 _ (by omega)];exact g.gW,by rw[eh6,xH rfl,gT5];rfl⟩, ?_⟩,fun q=>absurd c q⟩
   clear oy oy3 aA aB g x3 low2 low3 low4 low5 km hF eh1 eh2 eh3 eh4 eh5 eh6
   refine⟨[(2,.aG bA 0),(3,.aG bB 0),(5,.aG W 0),(6,.int .i64 e),(9,.aG T 0)], ?_,rfl⟩
   unfold Jy
   generalize xz y=Y at *
   generalize zW F=FV at *
   simp (disch:=omega)only[go_sem,xF,AP.f223L0,dt hi.2,gA,yx,e1,hN',z1,cv,sv,st2,gO2,d2,hd,gB2,z2,cw,sw,st3,gO3,d0,k4,gB3,d8,km',e4,n3,z4,cF,sF,st5,z5,gT5,st6]
 · have km':aU AP.A 244 [.agg [w],y.ve] h3=some (.bW [.agg [.aS],.int .i64 1604],h3):=by rw[km];unfold Dt;rw[if_neg c]
   obtain⟨h5,eh5⟩:∃g,g=h4.set (N+1) [.aS]:=⟨_,rfl⟩
   have f5:h5.floor=h.floor:=by rw[eh5];simp [f4]
   have st5:vR h4 (N+1) 0 1 [.aS] (some [.aS])=some h5:=by rw[wx (by omega) (by simp) rfl,eh5];rfl
   have low5:∀k,k<N→h5.get k=h.get k:=fun k hk=>by rw[eh5,xC (by omega),low4 k hk]
   have gA5:h5.get bA=some [v]:=by rw[low5 _ (by omega)];exact gA
   have gB5:h5.get bB=some [w]:=by rw[low5 _ (by omega)];exact gB
   have kc:=JO h5 v w l m sv sw (aA.rd _) (aB.rd _) (aA.ok _) (aB.ok _) aA.im aB.im aA.may aB.may
   refine⟨h5,f5,by rw[eh5];simp [n4];omega,fun q=>absurd q c,fun _=> ?_⟩
   clear oy oy3 aA aB g x3 low2 low3 low4 low5 km hF eh1 eh2 eh3 eh4 eh5
   unfold Jy
   generalize xz y=Y at *
   generalize zJ (l.map (·.1)) (m.map (·.1))=C at *
   by_cases he:e=0
   · rw[df (show¬e≠0 by simpa using he),abp]
     simp (disch:=omega)only[go_sem,xF,AP.f223L0,dt hi.2,gA,yx,e1,hN',z1,cv,sv,st2,gO2,d2,hd,gB2,z2,cw,sw,st3,gO3,d0,k4,gB3,d8,km',e4,n3,z4,st5,he,gA5,gB5,kc]
   · rw[dt he,Bool.true_or]
     simp (disch:=omega)only[go_sem,xF,AP.f223L0,dt hi.2,gA,yx,e1,hN',z1,cv,sv,st2,gO2,d2,hd,gB2,z2,cw,sw,st3,gO3,d0,k4,gB3,d8,km',e4,n3,z4,st5,he,gA5,gB5,kc]
structure YM (tv:AV) (tl:List xN):Prop where
 sc:tv.sc=true
 rd:∀g,yM 9 g tv tl.length (xG tl)
 ok:∀g,∀x∈tl,yF g x∧x.2.sc=true
 len:tl.length≤6
theorem Arg.VK {v:AV} {l:List xN} (a:Arg v l):YM v l:=⟨a.sc,a.rd,a.ok,a.len⟩
theorem J4 {L:List xP} (h:Cd L=true) (hl:L.length≤6):YM (zW L) (L.map zP):=by
 refine⟨Dl L,fun g=>He g L,fun g x hx=> ?_,by rw[aa0];exact hl⟩
 obtain⟨e,he,rfl⟩:=aa6.1 hx
 unfold Cd at h
 rw[wT,aba]at h
 have:=Du g (h.2 e he)
 exact⟨this.1,this.2.1⟩
theorem E4:∀(es L:List xP),Cd L=true→(∀e∈es,yi e=true)→Cd (es.foldl zr L)=true
 |[],L,h,_=>h
 |e::es,L,h,he=>E4 es (zr L e) (Ks h (he e (by simp))) fun x hx=>he x (by simp [hx])
def YI:List Nat:=[2,3,5,6,7,9,10]
theorem Ak {bA bB W O T:Nat} {e i:Int} {h h':H} {r} (s:aO (aU AP.A) bH AP.f223L0 (Jy bA bB W O T e i) h=some (.normal,Jy bA bB W O T e (i+1),h')) (L:Lp AP.A YI AP.f223L0 (Jy bA bB W O T e (i+1)) h'=some r):Lp AP.A YI AP.f223L0 (Jy bA bB W O T e i) h=some r:=u9 (by exact s) L
theorem LL {bA bB W T O : Nat} {v w wv : AV} {l m : List xN} (aA : Arg v l) (aB : Arg w m) (ht : DG (l.map (·.1)) (m.map (·.1)) = false) {h : H} (g : PG h bA bB W T v w wv w) (y0 : yT) (gO : h.get O = some (xz y0)) (oy : B0 h y0) (e0 : y0.m = I8 (l.map (·.1))) (nO : bA ≠ O ∧ bB ≠ O ∧ W ≠ O ∧ T ≠ O) (nT : bA ≠ T ∧ bB ≠ T ∧ W ≠ T) (fh : h.floor ≤ h.next) (fO : h.floor ≤ O) (fT : h.floor ≤ T) (e : Int) :
 ∃ E h', h'.floor = h.floor ∧ h.next ≤ h'.next ∧
   ((Lp AP.A YI AP.f223L0 (Jy bA bB W O T e 0) h=some (.exit 0,E,h')∧ay E [2,3,5,6,9]=Zb bA bB W T e∧∃tv tl,PG h' bA bB W T v w wv tv∧YM tv tl∧(zJ (l.map (·.1)) (m.map (·.1))=false→(l.map (·.1)).foldl zr (m.map (·.1))=tl.map (·.1)))∨
     (Lp AP.A YI AP.f223L0 (Jy bA bB W O T e 0) h=some (.ret,[(4,.bool (decide (e≠0)||zJ (l.map (·.1)) (m.map (·.1))))],h')∧(zJ (l.map (·.1)) (m.map (·.1))=false→¬((l.map (·.1)).foldl zr (m.map (·.1))).length≤6))):=by
 obtain⟨A,hA⟩:∃A,A=l.map (·.1):=⟨_,rfl⟩
 obtain⟨B,hB⟩:∃B,B=m.map (·.1):=⟨_,rfl⟩
 have fA:yh A=true:=by rw[hA];exact aA.may
 have fB:yh B=true:=by rw[hB];exact aB.may
 rw[←hA,←hB]at ht ⊢
 rw[←hA]at e0
 have nothing:zu A B=[]→zJ A B=false→A.foldl zr B=m.map (·.1):=fun q1 q2=>by rw[D8 fA fB ht q2,q1];exact hB
 have p0:=Yq fA fB
 obtain⟨h1,f1,n1,g1,s1,t1⟩:=EA aA aB g y0 gO oy nO fh fO e 0 (by omega) (by rw[e0];show(0:Int)≠4;decide) (u:=w) (L:=m) (.inl ⟨by rw[e0];rfl,rfl,rfl⟩) (by rw[e0,←hB,p0];split<;>rfl)
 rw[e0,←hB,p0]at s1 t1
 by_cases c0:xZ (xQ B)=xZ (xQ A)
 · rw[if_pos c0]at s1
   obtain⟨E,q1,q2⟩:=s1 rfl
   exact⟨E,h1,f1,n1,.inl ⟨u6 (by exact q1),q2,w,m,g1,aB.VK,fun q=>nothing (GM (NU q c0)) q⟩⟩
 rw[if_neg c0]at t1
 obtain⟨d1,y1,gy1,oy1,e1⟩:=t1 rfl
 clear s1 t1
 have e1':y1.m=Vn B:=e1
 have p1:=Yr (B:=B) fA
 obtain⟨h2,f2,n2,g2,s2,t2⟩:=EA aA aB g1 y1 gy1 oy1 nO (by omega) (by omega) e (0+1) (by omega) (by rw[e1'];show(1:Int)≠4;decide) (u:=v) (L:=l) (.inr ⟨by rw[e1'];show(0:Int)≠1;decide,rfl,rfl⟩) (by rw[e1',←hA,p1];split<;>rfl)
 rw[e1',←hA,p1]at s2 t2
 by_cases c1:DL A B=[]
 · rw[if_pos c1]at s2
   obtain⟨E,q1,q2⟩:=s2 rfl
   exact⟨E,h2,by omega,by omega,.inl ⟨Ak d1 (u6 (by exact q1)),q2,w,m,g2,aB.VK,nothing (GM c1)⟩⟩
 rw[if_neg c1]at t2
 obtain⟨d2,y2,gy2,oy2,e2⟩:=t2 rfl
 clear s2 t2
 have e2':y2.m=OZ A B:=e2
 have p2:=Ys fA fB c1
 obtain⟨h3,f3,n3,g3,s3,t3⟩:=EA aA aB g2 y2 gy2 oy2 nO (by omega) (by omega) e (0+1+1) (by omega) (by rw[e2'];show(2:Int)≠4;decide) (u:=w) (L:=m) (.inl ⟨by rw[e2'];rfl,rfl,rfl⟩) (by rw[e2',←hB,p2];split<;>rfl)
 rw[e2',←hB,p2]at s3 t3
 by_cases c2:zu A B=[]
 · rw[if_pos c2]at s3
   obtain⟨E,q1,q2⟩:=s3 rfl
   exact⟨E,h3,by omega,by omega,.inl ⟨Ak d1 (Ak d2 (u6 (by exact q1))),q2,w,m,g3,aB.VK,nothing c2⟩⟩
 rw[if_neg c2]at t3
 obtain⟨d3,y3,gy3,oy3,e3⟩:=t3 rfl
 clear s3 t3
 have e3':y3.m=PV A B:=e3
 have p3:=Yt fA c2
 obtain⟨h4,f4,n4,g4,_,t4⟩:=EA aA aB g3 y3 gy3 oy3 nO (by omega) (by omega) e (0+1+1+1) (by omega) (by rw[e3'];show(3:Int)≠4;decide) (u:=v) (L:=l) (.inr ⟨by rw[e3'];show(0:Int)≠1;decide,rfl,rfl⟩) (by rw[e3',←hA,p3])
 rw[e3',←hA,p3]at t4
 obtain⟨d4,y4,gy4,oy4,e4⟩:=t4 rfl
 clear t4
 have e4':y4.m=Zs A B:=e4
 have en:y4.m.yJ=zu A B:=by rw[e4'];rfl
 have lA:A.length≤6:=by rw[hA,aa0];exact aA.len
 have sub:∀x∈zu A B,yi x=true:=fun x hx=>by
  have:=fA
  unfold yh at this
  rw[wT,aba]at this
  exact this.2 x (abr.1 hx).1
 obtain⟨h5,f5,n5,s5,t5⟩:=O3 aA aB g4 y4 gy4 oy4 nT (by omega) (by omega) e (0+1+1+1+1) (by omega) (by rw[e4'];rfl) (by rw[e4'];rfl) (by rw[en];exact xq (abv _ _) lA) (by rw[en];exact sub)
 rw[en,←hB,←hA]at t5
 rw[en,←hB]at s5
 by_cases c5:((zu A B).foldl zr B).length≤6
 · obtain⟨g5,E,q1,q2⟩:=s5 c5
   refine⟨E,h5,by omega,by omega,.inl ⟨Ak d1 (Ak d2 (Ak d3 (Ak d4 (u6 (by exact q1))))),q2,_,_,g5,J4 (E4 _ _ (Hd fB) sub) c5,fun q=> ?_⟩⟩
   rw[Ct];exact D8 fA fB ht q
 · have q1:=t5 c5
   exact⟨[],h5,by omega,by omega,.inr ⟨Ak d1 (Ak d2 (Ak d3 (Ak d4 (vF (by exact q1))))),fun q=>by rw[D8 fA fB ht q];exact c5⟩⟩
theorem Vm (A:List xP):VP (I8 A):=⟨by show(0:Nat)<_;omega,by show(0:Nat)<_;omega,by show(0:Nat)<_;omega,by show(0:Nat)<_;omega,by show(0:Nat)<_;omega,fun s h=>(by cases h),fun s h=>(by cases h),fun s h=>(by cases h)⟩
theorem CA:AP.f223.body=.seq (at_ 0 AP.f223.body) (.seq (at_ 1 AP.f223.body) (.seq (at_ 2 AP.f223.body) (.seq (at_ 3 AP.f223.body) (.seq (at_ 4 AP.f223.body) (.seq (at_ 5 AP.f223.body) (.seq (at_ 6 AP.f223.body) (.seq (at_ 7 AP.f223.body) (.seq (at_ 8 AP.f223.body) (I9 9 AP.f223.body))))))))):=rfl
set_option maxHeartbeats 8000000 in
theorem Vp (h : H) (v w : AV) (l m : List xN) (sv : v.sc = true) (sw : w.sc = true) (hn : l.length < 1125899906842624) (hm : m.length < 1125899906842624) (rd : ∀ g, yM 9 g v l.length (xG l)) (rw_ : ∀ g, yM 9 g w m.length (xG m)) (hv : ∀ g, ∀ x ∈ l, yF g x ∧ x.2.sc = true) (hw : ∀ g, ∀ x ∈ m, yF g x ∧ x.2.sc = true) (iA : ∀ x ∈ l, x.2.id? = none) (iB : ∀ x ∈ m, x.2.id? = none) :
 aU AP.A 223 [.agg [v],.agg [w]] h=some (.bool true,h):=by
 obtain⟨h1,eh1⟩:∃g,g=h.eO.alloc [v]:=⟨_,rfl⟩
 obtain⟨h2,eh2⟩:∃g,g=h1.alloc [w]:=⟨_,rfl⟩
 have n0:h.eO.next=h.next:=rfl
 have n1:h1.next=h.next+1:=by rw[eh1];simp
 have n2:h2.next=h.next+2:=by rw[eh2];simp [n1]
 have f2:h2.floor=h.next:=by rw[eh2,eh1];simp
 have gA:h2.get h.next=some [v]:=by rw[eh2,xI (by omega),eh1];exact xE rfl
 have gB:h2.get (h.next+1)=some [w]:=by rw[eh2,xE (by omega)]
 have k0:∀g,aU AP.A 242 [] g=some (.bool true,g):=K6
 have kA:=Ew h2 v l sv hn (rd _) (hv _)
 have kB:=Ew h2 w m sw hm (rw_ _) (hw _)
 have b0:aO (aU AP.A) bH (at_ 0 AP.f223.body) (params 0 [.agg [v],.agg [w]]) h.eO=some (.normal,[(2,.aG h.next 0),(3,.aG (h.next+1) 0)],h2):=by
  have z:=eh2.symm
  simp (disch:=omega)only[go_sem,xF,AP.f223,yz,sv,sw,n0,←eh1,n1,z]
 have b1:aO (aU AP.A) bH (at_ 1 AP.f223.body) [(2,.aG h.next 0),(3,.aG (h.next+1) 0)] h2=some (.normal,[(2,.aG h.next 0),(3,.aG (h.next+1) 0)],h2):=by
  simp (disch:=omega)only[go_sem,xF,AP.f223,yD,yz,k0]
 cases cA:yh (l.map (·.1))with
 | false =>
   rw[cA]at kA
   refine vP (fn:=AP.f223) (h2:=h2) (e:=[(4,.bool true)]) rfl rfl rfl ?_ rfl rfl
   rw[CA,ua,b0,uH,ua,b1,uH]
   clear rd hv rw_ hw b0 b1 kB
   simp (disch:=omega)only[go_sem,xF,AP.f223,yD,yz,gA,gB,yx,kA]
 |true=>
 cases cB:yh (m.map (·.1))with
 | false =>
   rw[cA]at kA
   rw[cB]at kB
   refine vP (fn:=AP.f223) (h2:=h2) (e:=[(4,.bool true)]) rfl rfl rfl ?_ rfl rfl
   rw[CA,ua,b0,uH,ua,b1,uH]
   clear rd hv rw_ hw b0 b1
   simp (disch:=omega)only[go_sem,xF,AP.f223,yD,yz,gA,gB,yx,kA,kB]
 |true=>
 rw[cA]at kA
 rw[cB]at kB
 have aA:Arg v l:=⟨sv,rd,hv,iA,cA⟩
 have aB:Arg w m:=⟨sw,rw_,hw,iB,cB⟩
 have kt:=VD h2 v w l m sv sw (rd _) (rw_ _) (hv _) (hw _) cA cB
 cases ht:DG (l.map (·.1)) (m.map (·.1))with
 | true =>
   rw[ht]at kt
   refine vP (fn:=AP.f223) (h2:=h2) (e:=[(4,.bool true)]) rfl rfl rfl ?_ rfl rfl
   rw[CA,ua,b0,uH,ua,b1,uH]
   clear rd hv rw_ hw b0 b1 aA aB
   simp (disch:=omega)only[go_sem,xF,AP.f223,yD,yz,gA,gB,yx,kA,kB,kt]
 |false=>
 rw[ht]at kt
 have b2:aO (aU AP.A) bH (at_ 2 AP.f223.body) [(2,.aG h.next 0),(3,.aG (h.next+1) 0)] h2=some (.normal,[(2,.aG h.next 0),(3,.aG (h.next+1) 0)],h2):=by
  clear rd hv rw_ hw b0 b1 aA aB
  simp (disch:=omega)only[go_sem,xF,AP.f223,yD,yz,gA,gB,yx,kA,kB,kt]
 obtain⟨A,hA⟩:∃A,A=l.map (·.1):=⟨_,rfl⟩
 obtain⟨B,hB⟩:∃B,B=m.map (·.1):=⟨_,rfl⟩
 have km:=Fp h2 w v m l sw (rw_ _) (hw _) cB (rd _) (aA.all _) (by have:=aA.len;omega)
 obtain⟨F,hF⟩:∃F,F=A.foldl zr B:=⟨_,rfl⟩
 rw[←hA,←hB,←hF]at km
 obtain⟨wv,e,em,ce⟩:∃(wv:AV) (e:Int),Dt F=.bW [.agg [wv],.int .i64 e]∧((F.length≤6∧wv=zW F∧e=0)∨(¬F.length≤6∧wv=.aS∧e=1604)):=by
  unfold Dt
  by_cases c:F.length≤6
  · rw[if_pos c];exact⟨_,_,rfl,.inl ⟨c,rfl,rfl⟩⟩
  · rw[if_neg c];exact⟨_,_,rfl,.inr ⟨c,rfl,rfl⟩⟩
 rw[em]at km
 have swv:wv.sc=true:=by
  rcases ce with ⟨_,rfl,_⟩|⟨_,rfl,_⟩
  · exact Dl F
  · rfl
 have cwv:=ye swv
 have cw:=ye sw
 obtain⟨W,hW⟩:∃W,W=h2.next:=⟨_,rfl⟩
 obtain⟨h3,eh3⟩:∃g,g=h2.alloc [.aS]:=⟨_,rfl⟩
 obtain⟨h4,eh4⟩:∃g,g=h3.set W [wv]:=⟨_,rfl⟩
 have f3:h3.floor=h.next:=by rw[eh3];simp [f2]
 have f4:h4.floor=h.next:=by rw[eh4];simp [f3]
 have n4:h4.next=W+1:=by rw[eh4,eh3,hW];simp
 have z3:h3.get W=some [.aS]:=by rw[eh3,xE hW]
 have z4:h4.get W=some [wv]:=by rw[eh4,xH rfl,z3];rfl
 have st4:vR h3 W 0 1 [wv] (some [.aS])=some h4:=by rw[wx (by omega) (by simp) swv,eh4];rfl
 have low4:∀k,k<W→h4.get k=h2.get k:=fun k hk=>by rw[eh4,xC (by omega),eh3,xI (by omega)]
 have gA4:h4.get h.next=some [v]:=by rw[low4 _ (by omega)];exact gA
 have gB4:h4.get (h.next+1)=some [w]:=by rw[low4 _ (by omega)];exact gB
 have b3:aO (aU AP.A) bH (at_ 3 AP.f223.body) [(2,.aG h.next 0),(3,.aG (h.next+1) 0)] h2=some (.normal,[(2,.aG h.next 0),(3,.aG (h.next+1) 0),(5,.aG W 0),(6,.int .i64 e)],h4):=by
  have e3:=eh3.symm
  have hW':=hW.symm
  clear rd hv rw_ hw b0 b1 b2 aA aB kA kB kt low4
  simp (disch:=omega)only[go_sem,xF,AP.f223,yD,yz,gA,gB,yx,km,e3,hW',z3,cwv,swv,st4]
 have ko:=Hn h4 v l sv hn (rd _) (hv _) 0 1
 rw[←hA]at ko
 have cA':yh A=true:=by rw[hA];exact cA
 rw[Vk cA']at ko
 have ko':aU AP.A 238 [.agg [v],.int .i64 0,.int .i64 1] h4=some (.bW [.agg (xz (Ah (I8 A))),.int .i64 0],h4):=ko
 have oM:B0 h4 (Ah (I8 A)):=Dn h4 (Vm A)
 obtain⟨A5,h5,O,a5,hO,ga5,st5,go5,x5,f5,l5⟩:=N8 h4 (by omega) (Ah (I8 A)) oM
 have kn:=fun (g:H) n=>Na g n
 simp only[I]at kn
 have b4:aO (aU AP.A) bH (at_ 4 AP.f223.body) [(2,.aG h.next 0),(3,.aG (h.next+1) 0),(5,.aG W 0),(6,.int .i64 e)] h4=some (.normal,[(2,.aG h.next 0),(3,.aG (h.next+1) 0),(5,.aG W 0),(6,.int .i64 e),(7,.aG O 0),(8,.int .i64 0)],h5):=by
  have z0:([.int .i64 0,.int .i64 0,.int .i64 0,.int .i64 0,.aS,.aS,.aS,.aS,.aS]:List AV)=xz yc:=rfl
  have cz:AV.aE (xz yc)=true:=rfl
  have lM:(xz (Ah (I8 A))).length=9:=rfl
  have cM:AV.aE (xz (Ah (I8 A)))=true:=Aj oM
  clear rd hv rw_ hw b0 b1 b2 b3 aA aB kA kB kt low4 km ko oM
  generalize xz (Ah (I8 A))=M at *
  simp (disch:=omega)only[go_sem,xF,AP.f223,yD,yz,gA4,yx,ko',z0,cz,zg,a5,hO,ga5,lM,cM,st5]
 have b5:aO (aU AP.A) bH (at_ 5 AP.f223.body) [(2,.aG h.next 0),(3,.aG (h.next+1) 0),(5,.aG W 0),(6,.int .i64 e),(7,.aG O 0),(8,.int .i64 0)] h5=some (.normal,[(2,.aG h.next 0),(3,.aG (h.next+1) 0),(5,.aG W 0),(6,.int .i64 e),(7,.aG O 0)],h5):=by
  clear rd hv rw_ hw b0 b1 b2 b3 b4 aA aB kA kB kt low4 km ko oM
  simp (disch:=omega)only[go_sem,xF,AP.f223,yD,yz,kn]
 obtain⟨T,hT⟩:∃T,T=h5.next:=⟨_,rfl⟩
 obtain⟨h6,eh6⟩:∃g,g=h5.alloc [.aS]:=⟨_,rfl⟩
 obtain⟨h7,eh7⟩:∃g,g=h6.set T [w]:=⟨_,rfl⟩
 have f6:h6.floor=h.next:=by rw[eh6];simp [f5,f4]
 have f7:h7.floor=h.next:=by rw[eh7];simp [f6]
 have n7:h7.next=T+1:=by rw[eh7,eh6,hT];simp
 have z6:h6.get T=some [.aS]:=by rw[eh6,xE hT]
 have z7:h7.get T=some [w]:=by rw[eh7,xH rfl,z6];rfl
 have st7:vR h6 T 0 1 [w] (some [.aS])=some h7:=by rw[wx (by omega) (by simp) sw,eh7];rfl
 have x7:Ext h5 h7:=fun k c q=>by have:=h5.lt _ _ q;rw[eh7,xC (by omega),eh6,xI (by omega)];exact q
 have gA5:=x5 _ _ gA4
 have gB5:=x5 _ _ gB4
 have b6:aO (aU AP.A) bH (at_ 6 AP.f223.body) [(2,.aG h.next 0),(3,.aG (h.next+1) 0),(5,.aG W 0),(6,.int .i64 e),(7,.aG O 0)] h5=some (.normal,[(2,.aG h.next 0),(3,.aG (h.next+1) 0),(5,.aG W 0),(6,.int .i64 e),(7,.aG O 0),(9,.aG T 0)],h7):=by
  have e6:=eh6.symm
  have hT':=hT.symm
  clear rd hv rw_ hw b0 b1 b2 b3 b4 b5 aA aB kA kB kt low4 km ko oM x7
  simp (disch:=omega)only[go_sem,xF,AP.f223,yD,yz,gB5,yx,e6,hT',z6,cw,sw,st7]
 have pg:PG h7 h.next (h.next+1) W T v w wv w:=⟨x7 _ _ gA5,x7 _ _ gB5,x7 _ _ (x5 _ _ z4),z7⟩
 obtain⟨E,h8,f8,n8,lp⟩:=LL aA aB ht pg (Ah (I8 A)) (x7 _ _ go5) (oM.mono fun k c q=>x7 _ _ (x5 _ _ q)) (by rw[hA];rfl) (by omega) (by omega) (by omega) (by omega) (by omega) e
 rw[←hA,←hB]at lp
 obtain⟨C,hC⟩:∃C,C=zJ A B:=⟨_,rfl⟩
 rw[←hC,←hF]at lp
 rcases lp with ⟨r1,r2,tv,tl,pg8,gt,law⟩|⟨r1,law⟩
 · have r1':Lp AP.A [2,3,5,6,7,9,10] AP.f223L0 [(2,.aG h.next 0),(3,.aG (h.next+1) 0),(5,.aG W 0),(6,.int .i64 e),(7,.aG O 0),(9,.aG T 0),(10,.int .i64 0)] h7=some (.exit 0,E,h8):=r1
   have r2':ay E [2,3,5,6,9]=[(2,.aG h.next 0),(3,.aG (h.next+1) 0),(5,.aG W 0),(6,.int .i64 e),(9,.aG T 0)]:=r2
   have b7:aO (aU AP.A) bH (at_ 7 AP.f223.body) [(2,.aG h.next 0),(3,.aG (h.next+1) 0),(5,.aG W 0),(6,.int .i64 e),(7,.aG O 0),(9,.aG T 0)] h7=some (.normal,[(2,.aG h.next 0),(3,.aG (h.next+1) 0),(5,.aG W 0),(6,.int .i64 e),(9,.aG T 0)],h8):=by
    clear rd hv rw_ hw b0 b1 b2 b3 b4 b5 b6 aA aB kA kB kt low4 km ko oM x7 r1 law gt
    simp (disch:=omega)only[go_sem,xF,AP.f223,yD,yz,uo,r1',r2']
   have kc:=JO h8 v w l m sv sw (rd _) (rw_ _) (hv _) (hw _) iA iB cA cB
   rw[←hA,←hB,←hC]at kc
   have gA8:=pg8.gA
   have gB8:=pg8.gB
   have gW8:=pg8.gW
   have gT8:=pg8.gT
   rcases ce with ⟨c6,rfl,rfl⟩|⟨c6,rfl,rfl⟩
   ·
    have fF:Cd F=true:=by
     rw[hF]
     refine E4 A B (Hd (by rw[hB];exact cB)) fun x hx=> ?_
     have:=cA'
     unfold yh at this
     rw[wT,aba]at this
     exact this.2 x hx
    have gF:=J4 fF c6
    have ks:=Pa h8 tv (zW F) tl (F.map zP) gt.sc gF.sc (by have:=gt.len;omega) (gt.rd _) (gF.rd _) (gt.ok _) (gF.ok _)
    rw[Ct]at ks
    have fin:decide (tl.map (·.1)=F)=true∨C=true:=by
     cases q:C with
     |true=>exact .inr rfl
     |false=>exact .inl (dt (law q).symm)
    generalize decide (tl.map (·.1)=F)=D at *
    refine vP (fn:=AP.f223) (h2:=h8) (e:=[(4,.bool true)]) rfl rfl rfl ?_ rfl rfl
    rw[CA,ua,b0,uH,ua,b1,uH,ua,b2,uH,ua,b3,uH,ua,b4,uH,ua,b5,uH,ua,b6,uH,ua,b7,uH]
    clear rd hv rw_ hw b0 b1 b2 b3 b4 b5 b6 b7 aA aB kA kB kt low4 km ko oM x7 r1 law gt gF fF em
    generalize zW F=FV at *
    cases D with
    |true=>simp (disch:=omega)only[go_sem,xF,AP.f223,yD,yz,CV,CW,gT8,gW8,gA8,gB8,yx,ks]
    | false =>
      have hc:C=true:=fin.resolve_left (by decide)
      rw[hc]at kc
      simp (disch:=omega)only[go_sem,xF,AP.f223,yD,yz,CV,CW,gT8,gW8,gA8,gB8,yx,ks,kc]
   ·
    have hc:C=true:=by
     cases q:C with
     |true=>rfl
     | false =>
       have:=abt List.length (law q)
       rw[aa0]at this
       have:=gt.len
       omega
    rw[hc]at kc
    refine vP (fn:=AP.f223) (h2:=h8) (e:=[(4,.bool true)]) rfl rfl rfl ?_ rfl rfl
    rw[CA,ua,b0,uH,ua,b1,uH,ua,b2,uH,ua,b3,uH,ua,b4,uH,ua,b5,uH,ua,b6,uH,ua,b7,uH]
    clear rd hv rw_ hw b0 b1 b2 b3 b4 b5 b6 b7 aA aB kA kB kt low4 km ko oM x7 r1 law gt em
    simp (disch:=omega)only[go_sem,xF,AP.f223,yD,yz,CV,CW,gT8,gW8,gA8,gB8,yx,kc]
 · have hb:(decide (e≠0)||C)=true:=by
    cases q:C with
    |true=>rw[Bool.or_true]
    | false =>
      have n6:=law q
      rcases ce with ⟨c6,_,_⟩|⟨_,_,rfl⟩
      · exact absurd c6 n6
      · decide
   rw[hb]at r1
   have r1':Lp AP.A [2,3,5,6,7,9,10] AP.f223L0 [(2,.aG h.next 0),(3,.aG (h.next+1) 0),(5,.aG W 0),(6,.int .i64 e),(7,.aG O 0),(9,.aG T 0),(10,.int .i64 0)] h7=some (.ret,[(4,.bool true)],h8):=r1
   refine vP (fn:=AP.f223) (h2:=h8) (e:=[(4,.bool true)]) rfl rfl rfl ?_ rfl rfl
   rw[CA,ua,b0,uH,ua,b1,uH,ua,b2,uH,ua,b3,uH,ua,b4,uH,ua,b5,uH,ua,b6,uH]
   clear rd hv rw_ hw b0 b1 b2 b3 b4 b5 b6 aA aB kA kB kt low4 km ko oM x7 r1 law em
   simp (disch:=omega)only[go_sem,xF,AP.f223,yD,yz,CV,CW,uo,r1']
theorem Ku {v:AV} {cs:List AV} (r:Rd H.empty v cs):v.id?=none:=by
 have r:=r.1
 cases v with
 | aH i o n z =>
   exfalso
   have:H.empty.get i=none:=rfl
   simp [aV,this]at r
 |aG=>cases r
 |_=>rfl
theorem Hk (r:List (Ty×List AV)) (h:r.map (·.1)=[Jq,Jq]) (hp:∀x∈r,Sh reachBytes x.1 x.2):aU AP.A 223 (r.map kL) H.empty=some (.bool true,H.empty):=by
 obtain⟨x,y,rfl,h1,h2⟩:=Zd h hp
 obtain⟨v,l,rfl,sv,rv,ov,nv⟩:=Nx h1
 obtain⟨w,m,rfl,sw,rw_,ow,nw⟩:=Nx h2
 exact Vp H.empty v w l m sv sw (by omega) (by omega) rv rw_ (fun g x hx=>⟨(ov x hx).2.1 g,(ov x hx).1⟩) (fun g x hx=>⟨(ow x hx).2.1 g,(ow x hx).1⟩) (fun x hx=>Ku ((ov x hx).2.1 H.empty).vec) (fun x hx=>Ku ((ow x hx).2.1 H.empty).vec)
end Ab
