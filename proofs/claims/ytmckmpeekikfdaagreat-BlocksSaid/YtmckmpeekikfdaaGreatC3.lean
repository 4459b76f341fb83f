/- Part C3. -/
import Derived.Test.YtmckmpeekikfdaaGreatC2
set_option linter.unusedSimpArgs false
set_option linter.unusedVariables false
set_option maxRecDepth 100000
namespace Ab
open Go
theorem xz (l:List Int) (k:Nat):∀n,k≤wK l k n∧wK l k n≤max k n
 |0=>⟨vB _,by rw[wK];omega⟩
 | n + 1 => by
   rw[wK]
   have:=xz l k n
   split
   · omega
   · split
     · omega
     · omega
theorem CT:∀(K:Nat) (S W O:List Int),(yR S K W O).length=O.length
 |0,S,W,O=>by rw[yR,xw]
 |K+1,S,W,O=>by rw[yR,CT K,xw]
theorem xZ (C:List Int) (K:Nat):(xh C K).length=C.length:=by unfold xh;rw[CT];simp
theorem DK (h:H) (l:List Int) {k:Nat} (hk:k≤l.length):Rd h (.aV false (ints l) 0 k 1) (ints (l.take k)):=by
 refine⟨?_,by intro s e;cases e⟩
 have:(ints (l.take k)).length=k:=by rw[qg,VZ];omega
 rw[this]
 simp [aS,ints,hk,List.map_take]
def dA (ts:List Tok):List Int:=zr ts ((List.replicate 286 0).set 256 1)
def dB (ts:List Tok):List Int:=zE ts (List.replicate 30 0)
def zt (l:List Int) (k:Nat):List Int:=l.take (wK l k l.length)
theorem Af (l:List Int) {k:Nat} (h:k≤l.length):(zt l k).length=wK l k l.length:=by
 have:=xz l k l.length
 unfold zt;rw[VZ];omega
def wV (ts:List Tok) (la lb Lc:List Int):List Nat:=
 let all:=la++lb
 let row:=we.map (fun o=>Lc.getD o.toNat 0)
 let k:=wK row 4 19
 wA 5 3++(wA (la.length-257) 5++(wA (lb.length-1) 5++(wA (k-4) 4++(zm (row.take k)++(yS (v7 Lc) all++(xp (v7 la) (v7 lb) ts++wy (v7 la) 256))))))
structure Dd (ts:List Tok) (KA KB KC:Nat) (la lb Lc:List Int):Prop where
 AM:Ag ts=true
 n:ts.length≤300
 tok:∀t∈ts,yN t
 ra:xU 15 KA (xA (dA ts))
 rb:xU 15 KB (xA (dB ts))
 ea:la=zt (xh (dA ts) KA) 257
 eb:lb=zt (xh (dB ts) KB) 1
 all:∀y∈la++lb,0≤y∧y<19
 rc:xU 7 KC (xA (xN (la++lb) (List.replicate 19 0)))
 ec:Lc=xh (xN (la++lb) (List.replicate 19 0)) KC
 row:∀y∈Lc,0≤y∧y<8
 ca:wH la=0∨wH la=302
 cb:wH lb=0∨wH lb=302
 cc:wH Lc=0∨wH Lc=302
 zo:∀y∈la++lb,BH (v7 Lc) y.toNat
 LR:∀t∈ts,HM (v7 la) (v7 lb) t
 BG:BH (v7 la) 256
theorem zF (l:List Int):(v7 l).length=l.length:=by simp [v7]
theorem yw (h:H) (l:List Int):xR 2 h (zh l) (v7 l).length ((v7 l).flatMap wX):=by
 have:=GG (n:=2) (k:=l.length) (h:=h) (cs:=(v7 l).flatMap wX) (by rw[A4 yG,zF])
 rw[zF];exact this
theorem zL (h:H) (l:List Int):Rd h (yx 1 l.length (ints l)) (ints l):=by
 have:=GG (n:=1) (k:=l.length) (h:=h) (cs:=ints l) (by rw[qg];omega)
 exact⟨by have:=this.1;rw[qg];exact this,this.2.2⟩
theorem Al {C:List Int} (h:2≤C.length):(xn C).length≤C.length:=Du h (xE 0 C)
theorem IC (h:H) (v:AV) (ts:List Tok) (KA KB KC:Nat) (la lb Lc:List Int) (ok:Dd ts KA KB KC la lb Lc) (rd:xR 3 h v ts.length (wG ts)):
 aR AP.A 13 [v] h=some (.bL [.str (bytesOf (wJ (wV ts la lb Lc))),.int .i64 0],h):=by
 obtain⟨AM,hn,tok,ra,rb,ea,eb,hall,rc,ec,hrow,ca,cb,cc,zo,LR,BG⟩:=ok
 have rd0:xR 3 h.dQ v ts.length (wG ts):=rd.mono fun i c q=>q
 obtain⟨h2',eh2⟩:∃g,g=(h.dQ.alloc (yo 286 [.int .i64 0])).alloc (yo 30 [.int .i64 0]):=⟨_,rfl⟩
 have d2:=UR (v0:=v) (g:=h.dQ)
 rw[←eh2]at d2
 change aL (aR AP.A) bp (at_ 2 AP.f13.body) [(0,v)] h.dQ=some (.normal,[(0,v),(4,.aF h.next 0 286 1),(5,.aF (h.next+1) 0 30 1)],h2')at d2
 have gA2:h2'.get h.next=some (ints (List.replicate 286 0)):=by rw[eh2,v8 (by simp),wh (by simp),xV]
 have gB2:h2'.get (h.next+1)=some (ints (List.replicate 30 0)):=by rw[eh2,wh (by simp),xV]
 have fl2:h2'.floor=h.next:=by rw[eh2];simp
 have nx2:h2'.next=h.next+2:=by rw[eh2];simp
 have x2:Ext h.dQ h2':=by rw[eh2];exact((Ext.refl _).alloc _).alloc _
 have d3:=US (v0:=v) (v5:=.aF (h.next+1) 0 30 1) gA2 (by rw[qg];simp) (by omega)
 rw[show(ints (List.replicate 286 0)).set 256 (.int .i64 1)=ints ((List.replicate 286 0).set 256 1)from xk _ _ _]at d3
 obtain⟨h3',eh3⟩:∃g,g=h2'.set h.next (ints ((List.replicate 286 0).set 256 1)):=⟨_,rfl⟩
 rw[←eh3]at d3
 have gA3:h3'.get h.next=some (ints ((List.replicate 286 0).set 256 1)):=by rw[eh3,wu rfl,gA2];rfl
 have gB3:h3'.get (h.next+1)=some (ints (List.replicate 30 0)):=by rw[eh3,vX (by omega),gB2]
 have fl3:h3'.floor=h.next:=by rw[eh3];simp [fl2]
 have nx3:h3'.next=h.next+2:=by rw[eh3];simp [nx2]
 have x3:Ext h.dQ h3':=by rw[eh3];exact x2.set (by simp) _
 obtain⟨h4,L4,gA4,gB4,f4⟩:=Dj (by omega) h.dQ rd0 h.next (h.next+1) tok (by omega) (by simp) (by simp) ts [] _ _ h3' rfl x3 (by simp;omega) gA3 gB3 (by simp) (by simp) (fun y hy=>by
  rcases V0 hy with q|q
  · have:=VU q;omega
  · omega) (fun y hy=>by have:=VU hy;omega) (by omega) (by omega) (by omega)
 change h4.get h.next=some (ints (dA ts))at gA4
 change h4.get (h.next+1)=some (ints (dB ts))at gB4
 have d4:=UT L4
 have fl4:h4.floor=h.next:=by rw[f4.floor,fl3]
 have nx4:h.next+2≤h4.next:=by have:=f4.next;omega
 have x4:Ext h.dQ h4:=fun i c q=>by
  have:=h.dQ.lt _ _ q
  simp at this
  rw[f4.xc i (by omega) (by omega) (by omega),x3 i c q]
 have lA:(dA ts).length=286:=by unfold dA;rw[AR];simp
 have lB:(dB ts).length=30:=by unfold dB;rw[AU];simp
 have rgA:∀y∈dA ts,0≤y∧y≤2147483647:=fun y hy=>by
  have:=AS ts ((List.replicate 286 0).set 256 1) 1 (by omega) (fun y hy=>by
   rcases V0 hy with q|q
   · have:=VU q;omega
   · omega) y hy
  omega
 have rgB:∀y∈dB ts,0≤y∧y≤2147483647:=fun y hy=>by
  have:=AW ts (List.replicate 30 0) 0 (by omega) (fun y hy=>by have:=VU hy;omega) y hy
  omega
 have rdA:Rd h4 (.aF h.next 0 286 1) (ints (dA ts)):=by
  have:wM 1 h4 (.aF h.next 0 286 1) (dA ts).length (ints (dA ts)):=by rw[lA];exact⟨by rw[qg,lA],.inr ⟨h.next,rfl,gA4,by omega,by omega⟩⟩
  exact this.NR
 have rdB:Rd h4 (.aF (h.next+1) 0 30 1) (ints (dB ts)):=by
  have:wM 1 h4 (.aF (h.next+1) 0 30 1) (dB ts).length (ints (dB ts)):=by rw[lB];exact⟨by rw[qg,lB],.inr ⟨h.next+1,rfl,gB4,by omega,by omega⟩⟩
  exact this.NR
 have sA:=Al (C:=dA ts) (by omega)
 have sB:=Al (C:=dB ts) (by omega)
 have kA:=BV h4 _ (dA ts) 15 KA (by omega) (by omega) rdA (by omega) rgA (by omega) ra
 have kB:=BV h4 _ (dB ts) 15 KB (by omega) (by omega) rdB (by omega) rgB (by omega) rb
 have lLA:=xZ (dA ts) KA
 have lLB:=xZ (dB ts) KB
 generalize xh (dA ts) KA=LA at *
 generalize xh (dB ts) KB=LB at *
 rw[lA]at lLA
 rw[lB]at lLB
 have kA':aR AP.A 30 [.aF h.next 0 286 1,.int .i64 15] h4=some (.bL [yx 1 LA.length (ints LA),.int .i64 0],h4):=by rw[lLA];rw[lA]at kA;exact kA
 have kB':aR AP.A 30 [.aF (h.next+1) 0 30 1,.int .i64 15] h4=some (.bL [yx 1 LB.length (ints LB),.int .i64 0],h4):=by rw[lLB];rw[lB]at kB;exact kB
 have d5:=UU (v0:=v) (v5:=.aF (h.next+1) 0 30 1) kA'
 have d6:=UW (v0:=v) (v11:=yx 1 LA.length (ints LA)) kB'
 have uA:=Jd h4 _ LA (by omega) (zL h4 LA) 257 (by omega)
 have uB:=Jd h4 _ LB (by omega) (zL h4 LB) 1 (by omega)
 have ugA:=xz LA 257 LA.length
 have ugB:=xz LB 1 LB.length
 have d7:=UX (v0:=v) (v13:=yx 1 LB.length (ints LB)) (qg LA) (by omega) (by omega) rfl uA
 have d8:=UY (v0:=v) (v11:=.aV false (ints LA) 0 (wK LA 257 LA.length) 1) (qg LB) (by omega) (by omega) rfl uB
 have r11:∀g:H,Rd g (.aV false (ints LA) 0 (wK LA 257 LA.length) 1) (ints la):=fun g=>by rw[ea];exact DK g LA (by omega)
 have r13:∀g:H,Rd g (.aV false (ints LB) 0 (wK LB 1 LB.length) 1) (ints lb):=fun g=>by rw[eb];exact DK g LB (by omega)
 have lla:la.length=wK LA 257 LA.length:=by rw[ea];exact Af LA (by omega)
 have llb:lb.length=wK LB 1 LB.length:=by rw[eb];exact Af LB (by omega)
 generalize hv11:AV.aV false (ints LA) 0 (wK LA 257 LA.length) 1=v11 at *
 generalize hv13:AV.aV false (ints LB) 0 (wK LB 1 LB.length) 1=v13 at *
 have la1:257≤la.length∧la.length≤286:=by omega
 have lb1:1≤lb.length∧lb.length≤30:=by omega
 clear uA uB kA kB kA' kB' ugA ugB rdA rdB rgA rgB sA sB
 have a1:=EY (z:=8) (r11 h4).T9 (by omega) (by omega) (by rw[qg];omega) (xK (by rw[qg];omega)) (jO la)
 obtain⟨h5,eh5⟩:∃g,g=((h4.alloc []).del h4.next).alloc (ints la):=⟨_,rfl⟩
 rw[←eh5]at a1
 rw[qg]at a1
 have d9:=UZ (v0:=v) (v13:=v13) a1
 have ow5:wM 1 h5 (.aF (h4.next+1) 0 la.length 1) la.length (ints la):=⟨by rw[qg];omega,.inr ⟨h4.next+1,rfl,by rw[eh5,wh (by simp)],by rw[eh5];simp;omega,by omega⟩⟩
 have fl5:h5.floor=h.next:=by rw[eh5];simp [fl4]
 have nx5:h4.next≤h5.next:=by rw[eh5];simp;omega
 have k5:∀i,i<h4.next→h5.get i=h4.get i:=fun i hi=>by rw[eh5,v8 (by simp;omega),yY (by omega),v8 (by omega)]
 obtain⟨v15,h6,p1,ow6,fl6,nx6,k6,id6⟩:=ow5.app (by omega) (z:=8) (m:=lb.length) (by omega) (by omega) (ints lb) (by rw[qg];omega) (jO lb) (xK (by omega))
 have a2:kS h5 1 8 (.aF (h4.next+1) 0 la.length 1) v13=some (v15,h6):=by
  unfold kS
  rw[(r13 h5).1,vu,qg]
  exact p1
 have d10:=Tw (v0:=v) (v11:=v11) a2
 rw[←qf,←vV]at ow6
 have k6':∀i,i<h4.next→h6.get i=h4.get i:=fun i hi=>by
  rw[k6 i (fun e=>by have:=vm e;omega) (by omega),k5 i hi]
 have id6':v15.id?=some h5.next:=id6
 generalize hal:la++lb=all at *
 have lal:all.length≤316∧0<all.length:=by rw[←hal,vV];omega
 have d11:=TC (v0:=v) (v11:=v11) (v13:=v13) (v15:=v15) (g:=h6)
 obtain⟨h7,eh7⟩:∃g,g=h6.alloc (yo 19 [.int .i64 0]):=⟨_,rfl⟩
 rw[←eh7]at d11
 have gC7:h7.get h6.next=some (ints (List.replicate 19 0)):=by rw[eh7,wh rfl,xV]
 have h6n:h6.get h6.next=none:=by
  cases e:h6.get h6.next with
  |none=>rfl
  |some c=>have:=h6.lt _ _ e;omega
 have x7:Ext h6 h7:=by rw[eh7];exact(Ext.refl _).alloc _
 obtain⟨h8,L8,gC8,fl8,nx8,k8⟩:=Dg (lv:=v) (dv:=v11) (mv:=v13) (by omega) hall h6.next h6 ow6.NR h6n all [] _ h7 rfl x7 gC7 (by simp) (fun y hy=>by have:=VU hy;simp;omega) (by rw[eh7];simp;have:=(ow6.lt id6').2;omega)
 have d12:=TD L8
 have lC:(xN all (List.replicate 19 0)).length=19:=by rw[AX];simp
 have rgC:∀y∈xN all (List.replicate 19 0),0≤y∧y≤2147483647:=fun y hy=>by
  have:=AY all (List.replicate 19 0) 0 (by omega) (fun y hy=>by have:=VU hy;omega) y hy
  omega
 have fl7:h7.floor=h.next:=by rw[eh7];simp;omega
 have rdC:Rd h8 (.aF h6.next 0 19 1) (ints (xN all (List.replicate 19 0))):=by
  have:wM 1 h8 (.aF h6.next 0 19 1) (xN all (List.replicate 19 0)).length (ints (xN all (List.replicate 19 0))):=by
   rw[lC];exact⟨by rw[qg,lC],.inr ⟨h6.next,rfl,gC8,by rw[fl8,fl7];have:=(ow6.lt id6');omega,by omega⟩⟩
  exact this.NR
 have sC:=Al (C:=xN all (List.replicate 19 0)) (by omega)
 have kC:=BV h8 _ (xN all (List.replicate 19 0)) 7 KC (by omega) (by omega) rdC (by omega) rgC (by omega) rc
 have lLc:Lc.length=19:=by rw[ec,xZ,lC]
 have kC':aR AP.A 30 [.aF h6.next 0 19 1,.int .i64 7] h8=some (.bL [yx 1 Lc.length (ints Lc),.int .i64 0],h8):=by rw[lLc];rw[←ec,lC]at kC;exact kC
 have d13:=TE (v0:=v) (v11:=v11) (v13:=v13) (v15:=v15) kC'
 have d14:=TF (v0:=v) (v11:=v11) (v13:=v13) (v15:=v15) (v18:=yx 1 Lc.length (ints Lc)) (LY h8)
 have d15:=TG (v0:=v) (v11:=v11) (v13:=v13) (v15:=v15) (v18:=yx 1 Lc.length (ints Lc)) (v20:=xg we) (g:=h8)
 obtain⟨h9,eh9⟩:∃g,g=h8.alloc (yo 19 [.int .i64 0]):=⟨_,rfl⟩
 rw[←eh9]at d15
 have gR9:h9.get h8.next=some (ints (List.replicate 19 0)):=by rw[eh9,wh rfl,xV]
 have h8n:h8.get h8.next=none:=by
  cases e:h8.get h8.next with
  |none=>rfl
  |some c=>have:=h8.lt _ _ e;omega
 have x9:Ext h8 h9:=by rw[eh9];exact(Ext.refl _).alloc _
 have fl8':h8.floor=h.next:=by rw[fl8,fl7]
 have nx8':h6.next+1=h8.next:=by rw[nx8,eh7];simp
 have nx6':h.next+2≤h6.next:=by omega
 obtain⟨h10,L10,gR10,fl10,nx10,k10⟩:=H7 (a0:=v) (a1:=v11) (a2:=v13) (a3:=v15) lLc h8.next h8 (zL h8 Lc) (yB h8 we) h8n 19 0 h9 (by omega) x9 gR9 (by rw[eh9];simp;omega)
 have d16:=TH L10
 obtain⟨R,hR⟩:∃R,R=we.map (fun o=>Lc.getD o.toNat 0):=⟨_,rfl⟩
 rw[←hR]at gR10
 have lR:R.length=19:=by rw[hR];rfl
 have rR:∀y∈R,0≤y∧y<8:=by
  intro y hy
  rw[hR]at hy
  obtain⟨o,ho,rfl⟩:=VN.1 hy
  have:=Bw o ho
  have hol:o.toNat<Lc.length:=by omega
  rw[Vx,Vz hol]
  exact hrow _ (VP hol)
 have fl10':h10.floor=h.next:=by rw[fl10,eh9];simp [fl8']
 have nx10':h8.next+1=h10.next:=by rw[nx10,eh9];simp
 have rdR:Rd h10 (.aF h8.next 0 19 1) (ints R):=by
  have:wM 1 h10 (.aF h8.next 0 19 1) R.length (ints R):=by
   rw[lR];exact⟨by rw[qg,lR],.inr ⟨h8.next,rfl,gR10,by omega,by omega⟩⟩
  exact this.NR
 have kU:=Jd h10 _ R (by omega) rdR 4 (by omega)
 have uk:=xz R 4 R.length
 rw[lR]at uk
 have d17:=TI (v0:=v) (v11:=v11) (v13:=v13) (v15:=v15) (v18:=yx 1 Lc.length (ints Lc)) kU
 rw[lR]at d17
 obtain⟨k,hk⟩:∃k,k=wK R 4 19:=⟨_,rfl⟩
 rw[←hk]at d17 uk
 have b10:∀i,i<h6.next→h10.get i=h6.get i:=fun i hi=>by
  rw[k10 i (by omega),eh9,v8 (by omega),k8 i (by omega),eh7,v8 (by omega)]
 have x10:Ext h.dQ h10:=fun i c q=>by
  have hi:=h.dQ.lt _ _ q
  simp at hi
  rw[b10 i (by omega),k6' i (by omega),x4 i c q]
 have rdv:xR 3 h10 v ts.length (wG ts):=rd0.mono x10
 have rda:Rd h10 v15 (ints all):=(ow6.mono (by omega) fun i hi=>b10 i (ow6.lt hi).2).NR
 have d18:=TJ (v0:=v) (v11:=v11) (v13:=v13) (v15:=v15) (v18:=yx 1 Lc.length (ints Lc)) (v21:=.aF h8.next 0 19 1) (v23:=.int .i64 (k:Nat)) (g:=h10)
 obtain⟨h11,eh11⟩:∃g,g=h10.alloc [.aP,.int .i64 0]:=⟨_,rfl⟩
 rw[←eh11]at d18
 have wx0:WX h10 h11 h10.next [] .aP:=by
  refine⟨⟨by rw[eh11,wh rfl];rfl,wM.nil,by rw[eh11];simp;omega,by rw[eh11];simp;omega,by simp [AV.id?],fun b hb=>by simp [wJ,yc]at hb⟩,by rw[eh11];exact(Ext.refl _).alloc _,vB _,by rw[eh11];simp,fun j hj=>by simp [AV.id?]at hj⟩
 obtain⟨h12,o12,p12,w12,f12⟩:=zR wx0.wr 5 3 (by omega) (by omega) (by simp)
 have wx1:=wx0.step w12 f12
 have l1:([]++wA 5 3).length=3:=by simp [wA,wE]
 obtain⟨h13,o13,p13,w13,f13⟩:=zR wx1.wr (la.length-257) 5 (by omega) (by omega) (by omega)
 have wx2:=wx1.step w13 f13
 have l2:([]++wA 5 3++wA (la.length-257) 5).length=8:=by simp [wA,wE]
 obtain⟨h14,o14,p14,w14,f14⟩:=zR wx2.wr (lb.length-1) 5 (by omega) (by omega) (by omega)
 have wx3:=wx2.step w14 f14
 have l3:([]++wA 5 3++wA (la.length-257) 5++wA (lb.length-1) 5).length=13:=by simp [wA,wE]
 obtain⟨h15,o15,p15,w15,f15⟩:=zR wx3.wr (k-4) 4 (by omega) (by omega) (by omega)
 have wx4:=wx3.step w15 f15
 have l4:([]++wA 5 3++wA (la.length-257) 5++wA (lb.length-1) 5++wA (k-4) 4).length=17:=by simp [wA,wE]
 have p12':aR AP.A 33 [.aE h10.next 0,.int .i64 5,.int .i64 3] h11=some (.int .i64 0,h12):=p12
 have p13':aR AP.A 33 [.aE h10.next 0,.int .i64 ((la.length:Int)-257),.int .i64 5] h12=some (.int .i64 0,h13):=by
  have e:((la.length-257:Nat):Int)=(la.length:Int)-257:=by omega
  rw[e]at p13;exact p13
 have p14':aR AP.A 33 [.aE h10.next 0,.int .i64 ((lb.length:Int)-1),.int .i64 5] h13=some (.int .i64 0,h14):=by
  have e:((lb.length-1:Nat):Int)=(lb.length:Int)-1:=by omega
  rw[e]at p14;exact p14
 have p15':aR AP.A 33 [.aE h10.next 0,.int .i64 ((k:Int)-4),.int .i64 4] h14=some (.int .i64 0,h15):=by
  have e:((k-4:Nat):Int)=(k:Int)-4:=by omega
  rw[e]at p15;exact p15
 have ln11:jg false v11=some (.int .i64 la.length):=by have:=(r11 h10).len;rw[qg]at this;exact this
 have ln13:jg false v13=some (.int .i64 lb.length):=by have:=(r13 h10).len;rw[qg]at this;exact this
 have d19:=TK (v0:=v) (v11:=v11) (v13:=v13) (v15:=v15) (v18:=yx 1 Lc.length (ints Lc)) (v21:=.aF h8.next 0 19 1) (v23:=.int .i64 (k:Nat)) p12'
 have d20:=TL (v0:=v) (v13:=v13) (v15:=v15) (v18:=yx 1 Lc.length (ints Lc)) (v21:=.aF h8.next 0 19 1) (v23:=.int .i64 (k:Nat)) ln11 (by omega) p13'
 have d21:=TM (v0:=v) (v11:=v11) (v15:=v15) (v18:=yx 1 Lc.length (ints Lc)) (v21:=.aF h8.next 0 19 1) (v23:=.int .i64 (k:Nat)) ln13 (by omega) p14'
 have d22:=TN (v0:=v) (v11:=v11) (v13:=v13) (v15:=v15) (v18:=yx 1 Lc.length (ints Lc)) (v21:=.aF h8.next 0 19 1) (n:=k) (by omega) p15'
 obtain⟨e16,h16,o16,L16,q0,q11,q13,q15,q18,q24,wx5⟩:=FO (a0:=v) (a1:=v11) (a2:=v13) (a3:=v15) (a4:=yx 1 Lc.length (ints Lc)) h10 rdR k (by omega) lR h10.next rR k 0 _ h15 o15 (by omega) wx4 (by omega)
 have d23:=TO L16 q0 q11 q13 q15 q18 q24
 have k24:=Ck h16 _ Lc (by omega) (by omega) (zL h16 Lc) cc
 have d24:=TP (v0:=v) (v11:=v11) (v13:=v13) (v15:=v15) (v24:=.aE h10.next 0) k24
 have l5:([]++wA 5 3++wA (la.length-257) 5++wA (lb.length-1) 5++wA (k-4) 4++zm ((R.drop 0).take k)).length≤17+57:=by
  rw[vV,l4,At,VZ];omega
 obtain⟨e17,h17,o17,L17,q0',q11',q13',q24',wx6⟩:=Ez (a0:=v) (a1:=v11) (a2:=v13) h10 rda (yw h10 Lc) (by omega) (by rw[zF];exact lLc) h10.next hall zo all [] _ h16 o16 rfl wx5 (by omega)
 have d25:=TQ L17 q0' q11' q13' q24'
 have k26:=Ck h17 v11 la (by omega) (by omega) (r11 h17) ca
 have k27:=Ck h17 v13 lb (by omega) (by omega) (r13 h17) cb
 have d26:=TR (v0:=v) (v13:=v13) (v24:=.aE h10.next 0) k26
 have d27:=TS (v0:=v) (v24:=.aE h10.next 0) (v29:=zh la) k27
 have l6:=Cd zo
 obtain⟨h18,o18,k28,wx7⟩:=MG (by omega) h10 rdv (yw h10 la) (yw h10 lb) LR BG h10.next _ h17 o17 wx6 (by rw[vV];omega)
 have d28:=TU k28
 have k29:=GN wx7.wr
 have d29:=TW k29
 have eB:[]++wA 5 3++wA (la.length-257) 5++wA (lb.length-1) 5++wA (k-4) 4++zm ((R.drop 0).take k)++yS (v7 Lc) all++(xp (v7 la) (v7 lb) ts++wy (v7 la) 256)=wV ts la lb Lc:=by
  unfold wV
  simp only[Wd,VH,VW,hk,hR,hal]
 rw[eB]at d29
 have k1:=Jt h.dQ v ts (by omega) rd0
 rw[AM]at k1
 have d0:=UP (v0:=v) (g:=h.dQ)
 have d1:=UQ k1
 refine uL (fn:=AP.f13) (h2:=h18) (e:=[(2,.str (bytesOf (wJ (wV ts la lb Lc)))),(3,.int .i64 0)]) rfl rfl rfl ?_ rfl rfl
 rw[M5,sI,d0,tB,sI,d1,tB,sI,d2,tB,sI,d3,tB,sI,d4,tB,sI,d5,tB,sI,d6,tB,sI,d7,tB]
 rw[sI,d8,tB,sI,d9,tB,sI,d10,tB,sI,d11,tB,sI,d12,tB,sI,d13,tB,sI,d14,tB,sI,d15,tB,sI,d16,tB]
 rw[sI,d17,tB,sI,d18,tB,sI,d19,tB,sI,d20,tB,sI,d21,tB,sI,d22,tB,sI,d23,tB,sI,d24,tB,sI,d25,tB]
 rw[sI,d26,tB,sI,d27,tB,sI,d28,tB,d29]
theorem NQ (c:Int):∀k:Nat,c* 2^k<3^k→0≤c→∀m:Nat,c* 2^(k+m)<3^(k+m)
 |k,h,hc,0=>h
 | k, h, hc, m + 1 => by
   have ih:=NQ c k h hc m
   rw[←vz,Int.pow_succ,Int.pow_succ,←Int.mul_assoc]
   have p:(0:Int)≤c* 2^(k+m):=Int.mul_nonneg hc (Int.pow_nonneg (by omega))
   omega
theorem Cx:∀(ds:List Int) (a m:Int),(∀d∈ds,d≤m)→a≤m→zI ds a≤m
 |[],a,m,_,h=>h
 | d :: ds, a, m, hd, h => by
   rw[zI]
   refine Cx ds _ m (fun x hx=>hd x (by simp [hx])) ?_
   have:=hd d (by simp)
   unfold CW;split<;>omega
theorem DJ:∀(ds:List Int) (a:Int),a≤zI ds a∧∀d∈ds,d≤zI ds a
 |[],a=>⟨Wi _,by simp⟩
 | d :: ds, a => by
   have⟨h1,h2⟩:=DJ ds (CW a d)
   have:a≤CW a d∧d≤CW a d:=by unfold CW;split<;>omega
   rw[zI]
   refine⟨by omega,fun x hx=> ?_⟩
   rcases vR.1 hx with q|q
   · subst q;omega
   · exact h2 x q
theorem HN:∀ws:List Int,(∀y∈ws,y=1)→ws.sum=ws.length
 |[],_=>rfl
 | y :: ws, h => by
   have:=HN ws fun z hz=>h z (by simp [hz])
   have:=h y (by simp)
   rw[V5,Vy];omega
theorem Gy:∀ws:List Int,(∀y∈ws,1≤y)→(ws.length:Int)≤ws.sum
 |[],_=>by simp
 | y :: ws, h => by
   have:=Gy ws fun z hz=>h z (by simp [hz])
   have:=h y (by simp)
   rw[V5,Vy];omega
theorem CO:∀ws:List Int,(∀y∈ws,1≤y)→(wT ws).sum≤ws.sum∧((∃y∈ws,y≠1)→(wT ws).sum<ws.sum)
 |[],_=>⟨Wi _,by simp⟩
 | y :: ws, h => by
   obtain⟨h1,h2⟩:=CO ws fun z hz=>h z (by simp [hz])
   have hy:=h y (by simp)
   have e:(wT (y::ws)).sum=y7 y+(wT ws).sum:=by simp [wT]
   rw[e,V5]
   have a:y7 y≤y:=by unfold y7;omega
   refine⟨by omega,fun ⟨z,hz,hz1⟩=> ?_⟩
   rcases vR.1 hz with q|q
   · subst q
     have:y7 z<z:=by unfold y7;omega
     omega
   · have:=h2 ⟨z,q,hz1⟩;omega
theorem Fh {ws:List Int} (h:∀y∈ws,1≤y):∀y∈wT ws,1≤y:=by
 intro y hy
 obtain⟨z,hz,rfl⟩:=VN.1 hy
 have:=h z hz
 unfold y7;omega
theorem Er {ws:List Int} (h1:1≤ws.length) (ho:∀y∈ws,y=1) {c:Int} {k:Nat} (hc:(ws.length:Int)≤c) (hk:c* 2^(k+1)<3^(k+1)) (hs:ws.length≤288):∀d∈wB ws,d≤k:=by
 intro d hd
 have sm:=HN ws ho
 obtain⟨_,_,_,_,hb,_⟩:=Ql ws true h1 (fun y hy=>by have:=ho y hy;omega) (by omega) (fun _=>ho)
 have b:=hb rfl d hd
 apply VX
 intro q
 obtain⟨m,hm⟩:∃m:Nat,d.toNat=k+1+m:=⟨d.toNat-(k+1),by omega⟩
 rw[hm]at b
 have:=NQ c (k+1) hk (by omega) m
 have p:(0:Int)<2^(k+1+m):=Int.pow_pos (by omega)
 have:ws.sum* 2^(k+1+m)≤c* 2^(k+1+m):=Int.mul_le_mul_of_nonneg_right (by omega) (by omega)
 omega
theorem HL {ws:List Int} (hl:ws.length≤288) (pos:∀y∈ws,1≤y) (hs:ws.sum<1000000000000000):FD ws:=by
 by_cases e:ws=[]
 · exact .inl e
 · have h1:1≤ws.length:=Wf.2 e
   obtain⟨a,b,c,_⟩:=Ql ws false h1 pos hs (fun h=>by cases h)
   exact .inr ⟨h1,hl,a,b,c⟩
theorem KK {most : Int} (hm : 0 ≤ most) : ∀ (f : Nat) (ws : List Int), ws.sum ≤ f → (∀ y ∈ ws, 1 ≤ y) → ws.sum < 1000000000000000 → ((13 ≤ most ∧ ws.length ≤ 288) ∨ (7 ≤ most ∧ ws.length ≤ 19)) → ∃ K, xU most K ws := by
 intro f
 induction f with
 | zero =>
   intro ws hf pos hs hl
   have:=Gy ws pos
   have:ws=[]:=List.length_eq_zero_iff.1 (by omega)
   subst this
   exact⟨0,.last (.inl rfl) hm⟩
 | succ f ih =>
   intro ws hf pos hs hl
   have o:=HL (by omega) pos hs
   by_cases c:zI (wB ws) 0≤most
   · exact⟨0,.last o c⟩
   · have hne:ws≠[]:=fun e=>by subst e;exact c hm
     have h1:1≤ws.length:=Wf.2 hne
     have ho:∃y∈ws,y≠1:=by
      apply VX
      intro q
      have all1:∀y∈ws,y=1:=fun y hy=>VX fun r=>q ⟨y,hy,r⟩
      rcases hl with ⟨a,b⟩|⟨a,b⟩
      · have:=Er (c:=288) (k:=13) h1 all1 (by omega) (by decide) (by omega)
        exact c (Cx _ _ _ (fun d hd=>by have:=this d hd;omega) hm)
      · have:=Er (c:=19) (k:=7) h1 all1 (by omega) (by decide) (by omega)
        exact c (Cx _ _ _ (fun d hd=>by have:=this d hd;omega) hm)
     have hh:=(CO ws pos).2 ho
     obtain⟨K,r⟩:=ih (wT ws) (by omega) (Fh pos) (by omega) (by rw[yD];exact hl)
     exact⟨K+1,.more o (by omega) hne r⟩
theorem xW:∀(S D O:List Int) (p:Nat),(∀s∈S,s.toNat≠p)→(wU S D O)[p]?=O[p]?
 |[],D,O,p,h=>by simp [wU]
 |s::S,[],O,p,h=>by simp [wU]
 | s :: S, d :: D, O, p, h => by
   rw[wU,xW S D _ p fun t ht=>h t (by simp [ht]),VV,if_neg (h s (by simp))]
theorem yW:∀(S D O:List Int) (j:Nat) (s d:Int),(S.map Int.toNat).Nodup→S[j]?=some s→D[j]?=some d→s.toNat<O.length→(wU S D O)[s.toNat]?=some d
 |[],D,O,j,s,d,nd,h1,h2,h3=>by simp at h1
 |t::S,[],O,j,s,d,nd,h1,h2,h3=>by simp at h2
 | t :: S, e :: D, O, 0, s, d, nd, h1, h2, h3 => by
   simp at h1 h2
   subst h1;subst h2
   rw[VK,Wm]at nd
   rw[wU,xW S D _ _ fun u hu q=>nd.1 (VN.2 ⟨u,hu,q⟩),VV,if_pos rfl,if_pos h3]
 | t :: S, e :: D, O, j + 1, s, d, nd, h1, h2, h3 => by
   rw[VK,Wm]at nd
   rw[wU]
   exact yW S D _ j s d nd.2 (by simpa using h1) (by simpa using h2) (by rw[VT];exact h3)
theorem ze {S D O:List Int} {n:Nat} (hl:D.length=S.length) (nd:(S.map Int.toNat).Nodup) (hO:O.length=n) (hr:∀s∈S,s.toNat<n) (hz:∀p,p<n→(∀s∈S,s.toNat≠p)→O[p]?=some 0):wU S D O=wU S D (List.replicate n 0):=by
 apply List.ext_getElem?
 intro p
 by_cases hp:p<n
 · by_cases c:∃s∈S,s.toNat=p
   · obtain⟨s,hs,rfl⟩:=c
     obtain⟨j,hj,ej⟩:=Wa.1 hs
     have h1:S[j]?=some s:=by rw[Vz hj,ej]
     have h2:D[j]?=some (D[j]'(by omega)):=Vz (by omega)
     rw[yW S D O j s _ nd h1 h2 (by omega),yW S D _ j s _ nd h1 h2 (by simpa using hp)]
   · have c':∀s∈S,s.toNat≠p:=fun s hs q=>c ⟨s,hs,q⟩
     rw[xW _ _ _ _ c',xW _ _ _ _ c',hz p hp c',V4,if_pos hp]
 · rw[VS (by rw[xw];omega),VS (by rw[xw];simp;omega)]
theorem Em {most:Int} {S:List Int} {n:Nat} (nd:(S.map Int.toNat).Nodup) (hr:∀s∈S,s.toNat<n):∀(K:Nat) (W O:List Int),xU most K W→W.length=S.length→(∀y∈W,1≤y)→W.sum<1000000000000000→O.length=n→(∀p,p<n→(∀s∈S,s.toNat≠p)→O[p]?=some 0)→
 ∃W',W'.length=S.length∧(∀y∈W',1≤y)∧W'.sum<1000000000000000∧zI (wB W') 0≤most∧yR S K W O=wU S (wB W') (List.replicate n 0)
 | 0, W, O, r, hl, pos, hs, hO, hz => by
   cases r with
   |last o c=>exact⟨W,hl,pos,hs,c,ze (by rw[xD,hl]) nd hO hr hz⟩
 | K + 1, W, O, r, hl, pos, hs, hO, hz => by
   cases r with
   | more o c hne r =>
     have:=(CO W pos).1
     exact Em nd hr K (wT W) _ r (by rw[yD,hl]) (Fh pos) (by omega) (by rw[xw,hO]) (fun p hp hq=>by rw[xW _ _ _ _ hq];exact hz p hp hq)
theorem JR (f:Int→Nat):∀(O:List Int) (i:Nat) (d:Int),i<O.length→((O.set i d).map f).sum+f (O.getD i 0)=(O.map f).sum+f d
 |[],i,d,h=>by simp at h
 |x::O,0,d,h=>by simp;omega
 | x :: O, i + 1, d, h => by
   have:=JR f O i d (by simpa using h)
   simp only[List.set_cons_succ,VK,V5,List.getD_cons_succ];omega
theorem ED (f:Int→Nat):∀(S D O:List Int),D.length=S.length→(S.map Int.toNat).Nodup→(∀s∈S,s.toNat<O.length)→((wU S D O).map f).sum+(S.map fun s=>f (O.getD s.toNat 0)).sum=(O.map f).sum+(D.map f).sum
 | [], D, O, hl, nd, hr => by
   have:D=[]:=List.length_eq_zero_iff.1 (by simpa using hl)
   subst this
   simp [wU]
 |s::S,[],O,hl,nd,hr=>by simp at hl
 | s :: S, d :: D, O, hl, nd, hr => by
   rw[VK,Wm]at nd
   have ih:=ED f S D (O.set s.toNat d) (by simpa using hl) nd.2 (fun t ht=>by rw[VT];exact hr t (by simp [ht]))
   have e:(S.map fun t=>f ((O.set s.toNat d).getD t.toNat 0))=S.map fun t=>f (O.getD t.toNat 0):=V7 fun t ht=>by
    rw[getD_set_ne (fun q=>nd.1 (VN.2 ⟨t,ht,q.symm⟩))]
   rw[e]at ih
   have ss:=JR f O s.toNat d (hr s (by simp))
   simp only[wU,VK,V5]
   omega
def f15 (n:Nat) (x:Int):Nat:=if 1≤x∧x≤n then 2^(n-x.toNat)else 0
theorem Fv:∀n,wC [] n=2^n
 |0=>rfl
 | n + 1 => by
   have c:xM [] (n+1)=0:=Ji _
   rw[wC,Fv n,c,Int.pow_succ];omega
theorem Fs (n:Nat):∀(q p:List Int),wC (p++q) n=wC p n-((q.map (f15 n)).sum:Nat)
 |[],p=>by simp
 | x :: q, p => by
   have e:p++x::q=(p++[x])++q:=by simp
   rw[e,Fs n q (p++[x]),BU,VK,V5]
   unfold f15
   split
   · push_cast;omega
   · push_cast;omega
theorem Bv (l:List Int) (n:Nat):wC l n=2^n-((l.map (f15 n)).sum:Nat):=by
 have:=Fs n l []
 rwa [Wd,Fv]at this
theorem Fu (l:List Int):∀n,wk l n+xM l n+wC l n=2^n
 |0=>by simp [wk,wC,xM]
 | n + 1 => by
   have:=Fu l n
   rw[wk,wC,Int.pow_succ];omega
theorem IK {l:List Int} {n:Nat} (h:0≤wC l n):∀m,m≤n→0≤wC l m:=by
 have:∀k m,m+k=n→0≤wC l m:=by
  intro k
  induction k with
  | zero =>
    intro m hm
    have:m=n:=by omega
    subst this;exact h
  | succ k ih =>
    intro m hm
    have:=ih (m+1) (by omega)
    rw[wC]at this
    omega
 exact fun m hm=>this (n-m) m (by omega)
theorem Ha {l:List Int} {s:Nat} (hs:s<l.length) {n:Nat} (hn:1≤n) (e:l.getD s 0=(n:Int)):xM (l.take s) n<xM l n:=by
 have a:=BD hs n hn
 rw[if_pos e]at a
 have:∀(p q:List Int),xM p n≤xM (p++q) n:=fun p q=>by
  unfold xM;split
  · exact vB _
  · rw[List.countP_append];omega
 have b:=this (l.take (s+1)) (l.drop (s+1))
 rw[List.take_append_drop]at b
 omega
theorem Gp {l:List Int} (hl:0≤wC l 15) (hr:∀y∈l,0≤y∧y<16) {s:Nat} (hs:s<l.length) (h1:1≤l.getD s 0):BH (v7 l) s:=by
 have hm:l.getD s 0∈l:=by rw[Vx,Vz hs];exact VP hs
 have r:=hr _ hm
 obtain⟨n,hn⟩:=VF r.1
 have n1:1≤n:=by omega
 have lt:=Ha hs n1 hn
 have f:=Fu l n
 have m:=IK hl n (by omega)
 have fb:=(show 0≤wk l n from by
  have:∀n,0≤wk l n:=by
   intro n
   induction n with
   |zero=>simp [wk]
   |succ n ih=>rw[wk];omega
  exact this n)
 have tn:((n:Nat):Int).toNat=n:=by omega
 refine⟨n,(wk l n+xM (l.take s) n).toNat, ?_,n1,by omega, ?_⟩
 · unfold v7
   rw[vJ,V6 hs,VG]
   unfold Ac
   rw[if_pos h1,hn,tn]
   congr 2
   omega
 · have e2:((2^n:Nat):Int)=(2:Int)^n:=by push_cast;rfl
   omega
theorem Da:∀(C:List Int) (i:Nat),((wg i C).map Int.toNat).Nodup
 |[],i=>by simp [wg]
 | c :: r, i => by
   have ih:=Da r (i+1)
   rw[wg]
   split
   · rw[VK,Wm]
     refine⟨fun h=> ?_,ih⟩
     obtain⟨s,hs,e⟩:=VN.1 h
     have:=xY (i+1) r s hs
     omega
   · exact ih
theorem Ca:∀(C:List Int) (i p:Nat),0<C.getD p 0→((i+p:Nat):Int)∈wg i C
 |[],i,p,h=>by simp at h
 | c :: r, i, 0, h => by
   rw[wg,if_pos (by simpa using h)]
   simp
 | c :: r, i, p + 1, h => by
   have ih:=Ca r (i+1) p (by simpa using h)
   have e:i+1+p=i+(p+1):=by omega
   rw[e]at ih
   rw[wg]
   split
   · exact Wb _ ih
   · exact ih
theorem EJ:∀(C:List Int) (i:Nat),(∀y∈C,¬0<y)→wg i C=[]
 |[],i,h=>rfl
 | c :: r, i, h => by
   rw[wg,if_neg (h c (by simp))]
   exact EJ r (i+1) fun y hy=>h y (by simp [hy])
theorem HY {S:List Int} {s:Int} (h:s∈S):s∈zS S:=by
 unfold zS
 split
 · rename_i h1
   match S,h1 with
   | [t], _ =>
     simp at h;subst h
     split<;>simp
 · exact h
theorem Np {S : List Int} (h : (S.map Int.toNat).Nodup) (hp : ∀ s ∈ S, 0 ≤ s) : ((zS S).map Int.toNat).Nodup := by
 unfold zS
 split
 · rename_i h1
   match S,h1 with
   | [t], _ =>
     have:=hp t (by simp)
     split
     · rename_i c
       simp at c ⊢
       omega
     · rename_i c
       simp at c ⊢
       omega
 · exact h
theorem L6 {S:List Int} (h:S≠[]):2≤(zS S).length:=by
 unfold zS
 split
 · rename_i h1
   split
   · simp
   · simp [h1]
 · rename_i h1
   have:=Wf.2 h
   omega
theorem L7 {S W:List Int} (hl:W.length=S.length) (h:∀y∈W,1≤y):∀y∈Bd S W,1≤y:=by
 intro s hs
 unfold Bd at hs
 split at hs
 · rename_i h1
   rw[←hl]at h1
   match W,h1 with
   | [t], _ =>
     have:=h t (by simp)
     split at hs
     · simp at hs;omega
     · simp at hs;omega
 · exact h s hs
theorem Ig {α:Type}:∀l:List α,(l.map fun _=>(0:Nat)).sum=0
 |[]=>rfl
 |x::l=>by rw[VK,V5,Ig l]
theorem Ks {C:List Int} (h:∀y∈C,¬0<y):xn C=[]:=by
 unfold xn;rw[EJ C 0 h];rfl
theorem B7:∀(l:List Int) (b:Int),(∀y∈l,y≤b)→l.sum≤b* l.length
 |[],b,_=>by simp
 | y :: l, b, h => by
   have:=B7 l b fun z hz=>h z (by simp [hz])
   have hy:=h y (by simp)
   rw[V5,Vy]
   have e:b* ((l.length+1:Nat):Int)=b* l.length+b:=by rw[Int.natCast_add,Int.mul_add];simp
   omega
theorem HH {C : List Int} (hC : ∀ y ∈ C, 0 ≤ y ∧ y ≤ 2147483647) (h2 : 2 ≤ C.length) (hl : C.length ≤ 288) : (∀ y ∈ xA C, 1 ≤ y) ∧ (xA C).sum < 1000000000000000 := by
 have pos:∀y∈xA C,1≤y:=L7 (wP 0 C).symm fun y hy=>by have:=(yX C y hy).2;omega
 refine⟨pos, ?_⟩
 have up:∀y∈xA C,y≤2147483647:=by
  intro y hy
  have w:∀z∈wq C,z≤2147483647:=fun z hz=>(hC z (yX C z hz).1).2
  unfold xA Bd at hy
  split at hy
  · rename_i h1
    rw[wP]at h1
    match hW:wq C,h1 with
    | [t], _ =>
      rw[hW]at w hy
      have:=w t (by simp)
      split at hy
      · simp at hy;omega
      · simp at hy;omega
  · exact w y hy
 have:=B7 (xA C) 2147483647 up
 have l1:(xA C).length=(xn C).length:=Gi C
 have l2:=Al h2
 omega
theorem A8 {C:List Int} {most:Int} (hC:∀y∈C,0≤y∧y≤2147483647) (h2:2≤C.length) (hm:0≤most) (hl:(13≤most∧C.length≤288)∨(7≤most∧C.length≤19)):∃K,xU most K (xA C):=by
 obtain⟨a,b⟩:=HH hC h2 (by omega)
 have l1:(xA C).length=(xn C).length:=Gi C
 have l2:=Al h2
 exact KK hm (xA C).sum.toNat (xA C) (by have:=Gy _ a;omega) a b (by omega)
theorem zy {C : List Int} {most : Int} {K : Nat} (hC : ∀ y ∈ C, 0 ≤ y ∧ y ≤ 2147483647) (h2 : 2 ≤ C.length) (hl : C.length ≤ 288) (hm : 0 ≤ most ∧ most ≤ 15) (r : xU most K (xA C)) :
 (xh C K).length=C.length∧(∀y∈xh C K,0≤y∧y≤most)∧(∀p,0<C.getD p 0→1≤(xh C K).getD p 0)∧((∃y∈C,0<y)→wC (xh C K) 15=0)∧((∀y∈C,¬0<y)→xh C K=List.replicate C.length 0):=by
 obtain⟨a,b⟩:=HH hC h2 hl
 have nd:((xn C).map Int.toNat).Nodup:=Np (Da C 0) fun s hs=>by have:=xY 0 C s hs;omega
 have rg:∀s∈xn C,0≤s∧s<C.length:=HZ h2 fun s hs=>by have:=xY 0 C s hs;omega
 have rg':∀s∈xn C,s.toNat<C.length:=fun s hs=>by have:=rg s hs;omega
 obtain⟨W',w1,w2,w3,w4,w5⟩:=Em nd rg' K (xA C) (List.replicate C.length 0) r (Gi C) a b (by simp) (fun p hp _=>by rw[V4,if_pos hp])
 have e:xh C K=wU (xn C) (wB W') (List.replicate C.length 0):=w5
 have dl:(wB W').length=(xn C).length:=by rw[xD,w1]
 have dm:∀d∈wB W',d≤most:=fun d hd=>by have:=(DJ (wB W') 0).2 d hd;omega
 have o:=HL (ws:=W') (by have:=Al h2;omega) w2 w3
 have d0:=Dk o
 have gin:∀(j:Nat) (s d:Int),(xn C)[j]?=some s→(wB W')[j]?=some d→(xh C K)[s.toNat]?=some d:=fun j s d h1 h2=>by
  rw[e];exact yW _ _ _ j s d nd h1 h2 (by simpa using rg' s (vE h1))
 have gout:∀p:Nat,(∀s∈xn C,s.toNat≠p)→(xh C K)[p]?=(List.replicate C.length (0:Int))[p]?:=fun p hp=>by rw[e,xW _ _ _ _ hp]
 have hu:xn C≠[]→2≤(xn C).length:=fun hne=>by
  refine L6 fun q=>hne ?_
  unfold xn;rw[q];rfl
 have h1w:xn C≠[]→_:=fun hne=>Ql W' false (by have:=hu hne;omega) w2 w3 (fun h=>by cases h)
 refine⟨xZ C K, ?_, ?_, ?_, ?_⟩
 · intro y hy
   obtain⟨p,hp⟩:=vM.1 hy
   by_cases c:∃s∈xn C,s.toNat=p
   · obtain⟨s,hs,rfl⟩:=c
     obtain⟨j,hj⟩:=vM.1 hs
     have jl:=(vt.1 hj).1
     have hd:(wB W')[j]?=some ((wB W')[j]'(by omega)):=Vz (by omega)
     rw[gin j s _ hj hd]at hp
     obtain rfl:=vm hp
     have m:=VP (l:=wB W') (n:=j) (by omega)
     exact⟨(d0 _ m).1,dm _ m⟩
   · rw[gout p fun s hs q=>c ⟨s,hs,q⟩,V4]at hp
     split at hp
     · obtain rfl:=vm hp;omega
     · cases hp
 · intro p hp
   have sm:=Ca C 0 p hp
   rw[vF]at sm
   have hs:(p:Int)∈xn C:=HY sm
   obtain⟨j,hj⟩:=vM.1 hs
   have jl:=(vt.1 hj).1
   have hd:(wB W')[j]?=some ((wB W')[j]'(by omega)):=Vz (by omega)
   have g:=gin j _ _ hj hd
   have tp:((p:Nat):Int).toNat=p:=by omega
   rw[tp]at g
   rw[Vx,g]
   have hne:xn C≠[]:=fun q=>by rw[q]at hs;simp at hs
   exact(h1w hne).2.2.2.2.2 (by have:=hu hne;omega) _ (VP _)
 · rintro ⟨y,hy,hpos⟩
   obtain⟨p,hp⟩:=vM.1 hy
   have sm:=Ca C 0 p (by rw[Vx,hp];exact hpos)
   have hs:((0+p:Nat):Int)∈xn C:=HY sm
   have hne:xn C≠[]:=fun q=>by rw[q]at hs;simp at hs
   have H:=h1w hne
   have kr:=H.2.2.2.1 15 (fun d hd=>by have:=dm d hd;omega)
   have one:=H.2.2.2.2.2 (by have:=hu hne;omega)
   have ss:=ED (f15 15) (xn C) (wB W') (List.replicate C.length 0) dl nd (fun s hs=>by simpa using rg' s hs)
   rw[←e]at ss
   have z1:((xn C).map fun s=>f15 15 ((List.replicate C.length (0:Int)).getD s.toNat 0)).sum=0:=by
    have:(xn C).map (fun s=>f15 15 ((List.replicate C.length (0:Int)).getD s.toNat 0))=(xn C).map fun _=>0:=V7 fun s hs=>by
     rw[Bz (rg' s hs)];rfl
    rw[this,Ig]
   have z2:((List.replicate C.length (0:Int)).map (f15 15)).sum=0:=by
    rw[List.map_replicate]
    have:f15 15 0=0:=rfl
    rw[this];simp
   have z3:(wB W').map (f15 15)=(wB W').map fun d=>2^(15-d.toNat):=V7 fun d hd=>by
    unfold f15
    rw[if_pos ⟨one d hd,by have:=dm d hd;omega⟩]
   rw[z1,z2,z3,kr]at ss
   rw[Bv,show((xh C K).map (f15 15)).sum=2^15 by omega]
   rfl
 · intro h
   rw[e,Ks h]
   simp [wU]
theorem zP (l : List Int) (k : Nat) : ∀ n p, wK l k n ≤ p → p < n → ¬ 0 < l.getD p 0
 |0,p,h1,h2=>by omega
 | n + 1, p, h1, h2 => by
   rw[wK]at h1
   split at h1
   · omega
   · split at h1
     · omega
     · by_cases e:p=n
       · subst e;assumption
       · exact zP l k n p h1 (by omega)
theorem DD {l : List Int} (hr : ∀ y ∈ l, 0 ≤ y) (k n : Nat) : wC (zt l k) n = wC l n := by
 have e:l=zt l k++l.drop (wK l k l.length):=(List.take_append_drop _ _).symm
 have z:((l.drop (wK l k l.length)).map (f15 n)).sum=0:=by
  have:∀q:List Int,(∀y∈q,y=0)→(q.map (f15 n)).sum=0:=by
   intro q
   induction q with
   |nil=>intro _;rfl
   | cons x q ih =>
     intro h
     rw[VK,V5,ih fun y hy=>h y (by simp [hy]),h x (by simp)]
     unfold f15;simp
  refine this _ fun y hy=> ?_
  obtain⟨j,hj⟩:=vM.1 hy
  rw[vL]at hj
  have hl:=(vt.1 hj).1
  have:=zP l k l.length (wK l k l.length+j) (by omega) hl
  rw[Vx,hj]at this
  have:=hr y (List.mem_of_mem_drop hy)
  simp at *
  omega
 rw[Bv,Bv]
 have:(l.map (f15 n)).sum=((zt l k).map (f15 n)).sum:=by
  conv=>lhs;rw[e]
  rw[List.map_append,List.sum_append,z,Nat.add_zero]
 rw[this]
theorem M4 {l:List Int} (k:Nat) {p:Nat} (h:0<l.getD p 0):p<(zt l k).length∧(zt l k).getD p 0=l.getD p 0:=by
 have hp:p<l.length:=by
  apply VX
  intro c
  rw[Vx,VS (by omega)]at h
  simp at h
 have:p<wK l k l.length:=by
  apply VX
  intro c
  exact zP l k l.length p (by omega) hp h
 unfold zt
 refine⟨by rw[VZ];omega, ?_⟩
 rw[Vx,vU,if_pos this,←Vx]
theorem yq {l:List Int} (h1:1≤l.length) (h2:l.length≤288) (hr:∀y∈l,0≤y∧y<16) (h:0≤wC l 15):wH l=if wC l 15=0 then 0 else 302:=by
 have hm:Ap l=true:=by
  unfold Ap
  have:(ints l).any AK=false:=by
   rw[List.any_eq_false]
   intro x hx
   obtain⟨y,hy,rfl⟩:=VN.1 hx
   have:=hr y hy
   simp [AK,I];omega
  rw[this];simp;omega
 unfold wH
 rw[if_neg (by rw[hm];simp),if_neg (by omega)]
 split
 · rw[if_neg (by omega)]
 · rw[if_pos (by omega)]
theorem H8 (s:ByteArray) (i j:Nat):∀f k,(∀m,m<k→zg s (i+m)=zg s (j+m))→∀m,m<zN s i j f k→zg s (i+m)=zg s (j+m)
 |0,k,h=>by simpa [zN]using h
 | f + 1, k, h => by
   unfold zN
   split
   · rename_i q
     refine H8 s i j f (k+1) fun m hm=> ?_
     by_cases e:m=k
     · subst e;exact q.2.2
     · exact h m (by omega)
   · exact h
theorem BI (s:ByteArray) (i:Nat) (hi:i≤s.size):∀(n:Nat) (b:Nat×Nat),n≤i→(b.1=0∨(b.1≤258∧1≤b.2∧b.2≤i∧i+b.1≤s.size∧∀m,m<b.1→zg s (i+m)=zg s (i-b.2+m)))→
 ((xf s i n b).1=0∨((xf s i n b).1≤258∧1≤(xf s i n b).2∧(xf s i n b).2≤i∧i+(xf s i n b).1≤s.size∧∀m,m<(xf s i n b).1→zg s (i+m)=zg s (i-(xf s i n b).2+m)))
 |0,b,hn,h=>h
 | n + 1, b, hn, h => by
   unfold xf
   refine BI s i hi n _ (by omega) ?_
   split
   · right
     refine⟨JM s i n,by show 1≤i-n;omega,by show i-n≤i;omega,FP s i n hi,fun m hm=> ?_⟩
     have:=H8 s i n 258 0 (fun m hm=>by omega) m hm
     have e:i-(i-n)=n:=by omega
     show zg s (i+m)=zg s (i-(i-n)+m)
     rw[e];exact this
   · exact h
def preB (s:ByteArray) (i:Nat):List Nat:=(List.range i).map (zg s)
theorem zK (s:ByteArray) (i:Nat):(preB s i).length=i:=by simp [preB]
theorem CY (s:ByteArray) (i:Nat):preB s (i+1)=preB s i++[zg s i]:=by simp [preB,List.range_succ]
theorem H0 (s:ByteArray) {i j:Nat} (h:j<i):(preB s i).getD j 0=zg s j:=by
 rw[Vx,preB,vJ,V6 h];rfl
theorem Jm (s:ByteArray) {d:Nat} (hd:1≤d):∀(n i:Nat),d≤i→(∀m,m<n→zg s (i+m)=zg s (i-d+m))→Gc d n (preB s i)=preB s (i+n)
 |0,i,h,_=>rfl
 | n + 1, i, h, hm => by
   have e0:=hm 0 (by omega)
   simp only[Nat.add_zero]at e0
   rw[Gc,zK,H0 s (by omega),←e0,←CY,Jm s hd n (i+1) (by omega) fun m h2=>by
    have:=hm (m+1) (by omega)
    have a1:i+(m+1)=i+1+m:=by omega
    have a2:i-d+(m+1)=i+1-d+m:=by omega
    rw[a1,a2]at this;exact this]
   congr 1;omega
theorem I8 (s:ByteArray) {i:Nat} (hi:i<s.size):((xQ s i).1.len=0∧(xQ s i).1.lit=zg s i∧(xQ s i).1.wL=0∧(xQ s i).2=i+1)∨
 (∃L D:Nat,(xQ s i).1.len=L∧(xQ s i).1.wL=D∧(xQ s i).1.lit=0∧3≤L∧L≤258∧1≤D∧D≤i∧(xQ s i).2=i+L∧i+L≤s.size∧∀m,m<L→zg s (i+m)=zg s (i-D+m)):=by
 unfold xQ
 split
 · exact .inl ⟨rfl,rfl,rfl,rfl⟩
 · rename_i c
   right
   rcases BI s i (by omega) i (0,0) (vB _) (.inl rfl)with h|⟨h1,h2,h3,h4,h5⟩
   · omega
   · exact⟨_,_,rfl,rfl,rfl,by omega,h1,h2,h3,rfl,h4,h5⟩
theorem Aw (s : ByteArray) (hs : s.size ≤ 300) : ∀ (f i : Nat), s.size - i ≤ f → i ≤ s.size → (Bj s f i).length ≤ s.size - i ∧ (∀ t ∈ Bj s f i, yN t) ∧ wF i (Bj s f i) = true ∧ ya (Bj s f i) (preB s i) = preB s s.size
 | 0, i, hf, hi => by
   have:i=s.size:=by omega
   subst this
   simp [Bj,wF,ya]
 | f + 1, i, hf, hi => by
   rw[Bj]
   split
   · rename_i c
     have lt:=Iq s i
     have le:=Ip s i c
     obtain⟨i1,i2,i3,i4⟩:=Aw s hs f (xQ s i).2 (by omega) le
     have sp:=I8 s c
     refine⟨by rw[Vy];omega, ?_, ?_, ?_⟩
     · intro t ht
       rcases vR.1 ht with q|q
       · subst q
         rcases sp with ⟨a,b,_,_⟩|⟨L,D,a,b,_,c1,c2,c3,c4,_,_,_⟩
         · have:=DU s i
           exact .inl ⟨a,by omega,by omega⟩
         · exact .inr ⟨by omega,by omega,by omega,by omega⟩
       · exact i2 t q
     · rw [wF]
       rcases sp with ⟨a,b,c0,d⟩|⟨L,D,a,b,c0,c1,c2,c3,c4,d,e,_⟩
       · have hb:=DU s i
         have st:wW (i:Int) (xQ s i).1=some ((i:Int)+1):=by
          unfold wW
          rw[if_pos a,if_neg (by omega)]
         rw[st]
         simp only
         rw[if_neg (by omega)]
         have e:(((xQ s i).2:Nat):Int)=(i:Int)+1:=by omega
         rw[←e];exact i3
       · have st:wW (i:Int) (xQ s i).1=some ((i:Int)+L):=by
          unfold wW
          rw[if_neg (by omega),if_neg (by omega),a]
         rw[st]
         simp only
         rw[if_neg (by omega)]
         have e':(((xQ s i).2:Nat):Int)=(i:Int)+L:=by omega
         rw[←e'];exact i3
     · rw [ya]
       rcases sp with ⟨a,b,c0,d⟩|⟨L,D,a,b,c0,c1,c2,c3,c4,d,e,g⟩
       · have:wR (preB s i) (xQ s i).1=preB s (xQ s i).2:=by
          unfold wR
          rw[if_pos a,b,d,CY];rfl
         rw[this];exact i4
       · have:wR (preB s i) (xQ s i).1=preB s (xQ s i).2:=by
          unfold wR
          rw[if_neg (by omega),a,b,d]
          exact Jm s c3 L i c4 g
         rw[this];exact i4
   · have:i=s.size:=by omega
     subst this
     simp [wF,ya]
theorem Ea (s:ByteArray) (hs:s.size≤300):Ag (tokens s)=true:=by
 obtain⟨_,_,h3,h4⟩:=Aw s hs s.size 0 (by omega) (by omega)
 unfold Ag yy tokens
 have h3':wF 0 (Bj s s.size 0)=true:=h3
 rw[if_pos h3']
 have:ya (Bj s s.size 0) []=preB s s.size:=h4
 rw[this]
 simp only[xC,zK]
 simpa using hs
theorem Eg (l:List Int) (i p:Nat):l.getD p 0≤(xy l i).getD p 0:=by
 unfold xy
 by_cases e:i=p
 · subst e
   by_cases h:i<l.length
   · rw[Vx (l:=l.set i _),VV,if_pos rfl,if_pos h]
     show l.getD i 0≤l.getD i 0+1
     omega
   · rw[List.set_eq_of_length_le (by omega)];exact Wi _
 · rw[getD_set_ne e];exact Wi _
theorem Cr {l:List Int} {i:Nat} (h:i<l.length):(xy l i).getD i 0=l.getD i 0+1:=by
 unfold xy
 rw[Vx (l:=l.set i _),VV,if_pos rfl,if_pos h];rfl
theorem Cj:∀(ts:List Tok) (A:List Int) (p:Nat),A.getD p 0≤(zr ts A).getD p 0
 |[],A,p=>Wi _
 | t :: r, A, p => by
   rw[zr]
   refine Int.le_trans ?_ (Cj r _ p)
   split<;>exact Eg _ _ _
theorem G7:∀(ts:List Tok) (A:List Int) (p:Nat),A.getD p 0≤(zE ts A).getD p 0
 |[],A,p=>Wi _
 | t :: r, A, p => by
   rw[zE]
   refine Int.le_trans ?_ (G7 r _ p)
   split
   · exact Wi _
   · exact Eg _ _ _
theorem G9:∀(ts:List Int) (A:List Int) (p:Nat),A.getD p 0≤(xN ts A).getD p 0
 |[],A,p=>Wi _
 | t :: r, A, p => by
   rw[xN]
   exact Int.le_trans (Eg _ _ _) (G9 r _ p)
theorem Cy {A:List Int} (h:∀y∈A,0≤y) (p:Nat):0≤A.getD p 0:=by
 rw[Vx]
 cases e:A[p]? with
 |none=>simp
 |some y=>exact h y (vE e)
theorem IV {A:List Int} (h:∀y∈A,0≤y) (i:Nat):∀y∈xy A i,0≤y:=by
 intro y hy
 rcases V0 hy with q|q
 · exact h y q
 · have:=Cy h i;omega
theorem G6 : ∀ (ts : List Tok) (A : List Int), (∀ y ∈ A, 0 ≤ y) → A.length = 286 → ∀ t ∈ ts, yN t → (t.len = 0 → 1 ≤ (zr ts A).getD t.lit.toNat 0) ∧ (t.len ≠ 0 → 1 ≤ (zr ts A).getD (xB t.len.toNat) 0)
 |[],A,_,_,t,h,_=>by simp at h
 | u :: r, A, hA, hl, t, h, o => by
   rw[zr]
   rcases vR.1 h with q|q
   · subst q
     refine⟨fun h0=> ?_,fun h0=> ?_⟩
     · rw[if_pos h0]
       refine Int.le_trans ?_ (Cj r _ _)
       rcases o with ⟨_,b,c⟩|⟨a,_⟩
       · rw[Cr (by omega)]
         have:=Cy hA t.lit.toNat;omega
       · omega
     · rw[if_neg h0]
       refine Int.le_trans ?_ (Cj r _ _)
       rcases o with ⟨a,_⟩|⟨a,b,_⟩
       · exact absurd a h0
       · have:=yV (k:=t.len.toNat) (by omega) (by omega)
         rw[Cr (by omega)]
         have:=Cy hA (xB t.len.toNat);omega
   · exact G6 r _ (by split<;>exact IV hA _) (by split<;>rw[yf,hl]) t q o
theorem G8 : ∀ (ts : List Tok) (A : List Int), (∀ y ∈ A, 0 ≤ y) → A.length = 30 → ∀ t ∈ ts, yN t → t.len ≠ 0 → 1 ≤ (zE ts A).getD (xG t.wL.toNat) 0
 |[],A,_,_,t,h,_,_=>by simp at h
 | u :: r, A, hA, hl, t, h, o, h0 => by
   rw[zE]
   rcases vR.1 h with q|q
   · subst q
     rw[if_neg h0]
     refine Int.le_trans ?_ (G7 r _ _)
     rcases o with ⟨a,_⟩|⟨a,b,c,d⟩
     · exact absurd a h0
     · have:=yU (k:=t.wL.toNat) (by omega) (by omega)
       rw[Cr (by omega)]
       have:=Cy hA (xG t.wL.toNat);omega
   · refine G8 r _ ?_ ?_ t q o h0
     · split
       · exact hA
       · exact IV hA _
     · split
       · exact hl
       · rw[yf,hl]
theorem DW:∀(ds:List Int) (A:List Int),(∀y∈A,0≤y)→A.length=19→∀y∈ds,0≤y∧y<19→1≤(xN ds A).getD y.toNat 0
 |[],A,_,_,t,h,_=>by simp at h
 | u :: r, A, hA, hl, t, h, o => by
   rw[xN]
   rcases vR.1 h with q|q
   · subst q
     refine Int.le_trans ?_ (G9 r _ _)
     rw[Cr (by omega)]
     have:=Cy hA t.toNat;omega
   · exact DW r _ (IV hA _) (by rw[yf,hl]) t q o
theorem AG (n:Nat):∀y∈List.replicate n (0:Int),0≤y∧y≤0:=fun y hy=>by have:=VU hy;omega
theorem He (ts:List Tok) (hn:ts.length≤300):(dA ts).length=286∧(∀y∈dA ts,0≤y∧y≤2147483647)∧1≤(dA ts).getD 256 0:=by
 have z:∀y∈(List.replicate 286 (0:Int)).set 256 1,0≤y∧y≤1:=fun y hy=>by
  rcases V0 hy with q|q
  · have:=VU q;omega
  · omega
 refine⟨by unfold dA;rw[AR,VT,VR],fun y hy=> ?_, ?_⟩
 · have:=AS ts _ 1 (by omega) z y hy;omega
 · have h:((List.replicate 286 (0:Int)).set 256 1).getD 256 0=1:=by decide
   have:=Cj ts ((List.replicate 286 0).set 256 1) 256
   rw[h]at this
   exact this
theorem Hf (ts:List Tok) (hn:ts.length≤300):(dB ts).length=30∧(∀y∈dB ts,0≤y∧y≤2147483647):=by
 refine⟨by unfold dB;rw[AU,VR],fun y hy=> ?_⟩
 have:=AW ts _ 0 (by omega) (AG 30) y hy;omega
theorem LQ {ts:List Tok} {la lb:List Int} {t:Tok} (o:yN t) (hA:t.len=0→BH (v7 la) t.lit.toNat) (hL:t.len≠0→BH (v7 la) (xB t.len.toNat)) (hB:t.len≠0→BH (v7 lb) (xG t.wL.toNat)):HM (v7 la) (v7 lb) t:=by
 rcases o with ⟨a,b,c⟩|⟨a,b,c,d⟩
 · exact .inl ⟨a,b,hA a⟩
 · exact .inr ⟨a,b,c,d,hL (by omega),hB (by omega)⟩
theorem D7 {C l:List Int} {K k m:Nat} (hC:∀y∈C,0≤y∧y≤2147483647) (h2:2≤C.length) (hl:C.length≤288) (hk:k≤C.length) (hk1:1≤k) (r:xU 15 K (xA C)) (e:l=zt (xh C K) k):
 (k≤l.length∧l.length≤C.length)∧(∀y∈l,0≤y∧y<16)∧(wH l=0∨wH l=302)∧(∀p,0<C.getD p 0→BH (v7 l) p)∧0≤wC l 15:=by
 obtain⟨f1,f2,f3,f4,f5⟩:=zy hC h2 hl (by omega) r
 have ug:=xz (xh C K) k (xh C K).length
 have ll:l.length=wK (xh C K) k (xh C K).length:=by rw[e];exact Af _ (by omega)
 have hr:∀y∈l,0≤y∧y<16:=fun y hy=>by
  rw[e]at hy
  have:=f2 y (List.mem_of_mem_take hy)
  omega
 have lc:wC l 15=wC (xh C K) 15:=by rw[e];exact DD (fun y hy=>(f2 y hy).1) k 15
 have l0:0≤wC l 15:=by
  rw[lc]
  by_cases c:∃y∈C,0<y
  · rw[f4 c];omega
  · rw[f5 fun y hy q=>c ⟨y,hy,q⟩]
    rw[Bv,List.map_replicate]
    have:f15 15 0=0:=rfl
    rw[this];simp
 have ck:=yq (l:=l) (by omega) (by omega) hr l0
 refine⟨by omega,hr, ?_,fun p hp=> ?_,l0⟩
 · rw[ck];split
   · exact .inl rfl
   · exact .inr rfl
 · have g:=f3 p hp
   obtain⟨c1,c2⟩:=M4 k (show 0<(xh C K).getD p 0 by omega)
   rw[←e]at c1 c2
   exact Gp l0 hr c1 (by omega)
theorem Jp {ts:List Tok} (hn:ts.length≤300) (AM:Ag ts=true) (t2:∀t∈ts,yN t):∃KA KB KC la lb Lc,Dd ts KA KB KC la lb Lc:=by
 obtain⟨a1,a2,a3⟩:=He ts hn
 obtain⟨b1,b2⟩:=Hf ts hn
 obtain⟨KA,rA⟩:=A8 (most:=15) a2 (by omega) (by omega) (.inl (by omega))
 obtain⟨KB,rB⟩:=A8 (most:=15) b2 (by omega) (by omega) (.inl (by omega))
 obtain⟨la,ea⟩:∃l,l=zt (xh (dA ts) KA) 257:=⟨_,rfl⟩
 obtain⟨lb,eb⟩:∃l,l=zt (xh (dB ts) KB) 1:=⟨_,rfl⟩
 obtain⟨x1,x2,x3,x4,x5⟩:=D7 (m:=0) a2 (by omega) (by omega) (by omega) (by omega) rA ea
 obtain⟨y1,y2,y3,y4,y5⟩:=D7 (m:=0) b2 (by omega) (by omega) (by omega) (by omega) rB eb
 have hall:∀y∈la++lb,0≤y∧y<19:=fun y hy=>by
  rcases VY.1 hy with q|q
  · have:=x2 y q;omega
  · have:=y2 y q;omega
 have c1:(xN (la++lb) (List.replicate 19 0)).length=19:=by rw[AX,VR]
 have c2:∀y∈xN (la++lb) (List.replicate 19 0),0≤y∧y≤2147483647:=fun y hy=>by
  have:=AY (la++lb) _ 0 (by omega) (AG 19) y hy
  rw[vV]at this
  omega
 obtain⟨KC,rC⟩:=A8 (most:=7) c2 (by omega) (by omega) (.inr (by omega))
 obtain⟨f1,f2,f3,f4,f5⟩:=zy c2 (by omega) (by omega) (by omega) rC
 have hit:=DW (la++lb) (List.replicate 19 0) (fun y hy=>(AG 19 y hy).1) (by rw[VR])
 have ex:∃y∈xN (la++lb) (List.replicate 19 0),0<y:=by
  obtain⟨z,hz⟩:=List.exists_mem_of_ne_nil (la++lb) (fun q=>by
   have:=Wj List.length q
   rw[vV,VC]at this
   omega)
  have h:=hit z hz (hall z hz)
  refine⟨_, ?_,show 0<(xN (la++lb) (List.replicate 19 0)).getD z.toNat 0 by omega⟩
  have zl:z.toNat<(xN (la++lb) (List.replicate 19 0)).length:=by have:=hall z hz;omega
  rw[Vx,Vz zl]
  exact VP zl
 have l0:=f4 ex
 have r16:∀y∈xh (xN (la++lb) (List.replicate 19 0)) KC,0≤y∧y<16:=fun y hy=>by have:=f2 y hy;omega
 refine⟨KA,KB,KC,la,lb,_,⟨AM,hn,t2,rA,rB,ea,eb,hall,rC,rfl,fun y hy=>by have:=f2 y hy;omega,x3,y3, ?_, ?_, ?_, ?_⟩⟩
 · have:=yq (by omega) (by omega) r16 (by omega)
   rw[this,if_pos l0];exact .inl rfl
 · intro y hy
   have h:=hit y hy (hall y hy)
   have g:=f3 y.toNat (by omega)
   exact Gp (by omega) r16 (by have:=hall y hy;omega) g
 · intro t ht
   have o:=t2 t ht
   have zA:∀y∈(List.replicate 286 (0:Int)).set 256 1,0≤y:=fun y hy=>by
    rcases V0 hy with q|q
    · have:=VU q;omega
    · omega
   have hA:=G6 ts _ zA (by rw[VT,VR]) t ht o
   have hB:=G8 ts (List.replicate 30 0) (fun y hy=>(AG 30 y hy).1) (by rw[VR]) t ht o
   exact LQ (ts:=ts) o (fun h0=>x4 _ (by have:=hA.1 h0;unfold dA;omega)) (fun h0=>x4 _ (by have:=hA.2 h0;unfold dA;omega)) (fun h0=>y4 _ (by have:=hB h0;unfold dB;omega))
 · exact x4 256 (by omega)
theorem Pb (s:ByteArray) (hs:s.size≤300):∃KA KB KC la lb Lc,Dd (tokens s) KA KB KC la lb Lc:=by
 obtain⟨t1,t2,t3,t4⟩:=Aw s hs s.size 0 (by omega) (by omega)
 change (tokens s).length≤s.size-0 at t1
 exact Jp (by omega) (Ea s hs) t2
theorem M9 {ts:List Tok} {KA KB KC:Nat} {la lb Lc:List Int} (ok:Dd ts KA KB KC la lb Lc):17≤(wV ts la lb Lc).length∧(wV ts la lb Lc).length≤30000:=by
 obtain⟨AM,hn,tok,ra,rb,ea,eb,hall,rc,ec,hrow,ca,cb,cc,zo,LR,BG⟩:=ok
 have a:=Cd zo
 have b:=BB LR
 obtain⟨n,v,_,q1,q2,q3,q4⟩:=BG.bits
 have lA:(dA ts).length=286:=(He ts hn).1
 have lB:(dB ts).length=30:=(Hf ts hn).1
 have l1:la.length≤286:=by rw[ea];unfold zt;rw[VZ,xZ,lA];omega
 have l2:lb.length≤30:=by rw[eb];unfold zt;rw[VZ,xZ,lB];omega
 have c:(wy (v7 la) 256).length≤15:=by rw[q4,xm];exact q2
 rw[vV]at a
 unfold wV
 simp only[vV,wA,wE,At,VZ,Wc]
 have:we.length=19:=rfl
 omega
theorem Kx:∀bs:List Nat,(∀b∈bs,b≤1)→Iu (wJ bs):=by
 have:∀(l:List Nat) (i:Nat) (out:List Nat),(∀b∈l,b≤1)→Iu out→Iu (yc l i out):=by
  intro l
  induction l with
  |nil=>intro i out _ h;exact h
  |cons x l ih=>intro i out hl h;exact ih (i+1) _ (fun b hb=>hl b (by simp [hb])) (Bb (hl x (by simp)) h)
 exact fun bs h=>this bs 0 [] h fun _ q=>by simp at q
theorem zw (v:Nat):∀m,∀b∈yC v m,b≤1
 |0,b,h=>by simp [yC]at h
 | m + 1, b, h => by
   rw[yC]at h
   rcases vR.1 h with q|q
   · omega
   · exact zw v m b q
theorem zc (v:Nat):∀m i,∀b∈B5 v i m,b≤1
 |0,i,b,h=>by simp [B5]at h
 | m + 1, i, b, h => by
   rw[B5]at h
   rcases vR.1 h with q|q
   · omega
   · exact zc v m (i+1) b q
theorem Ir (E D:List (Int×Int)) (t:Tok):∀b∈wS E D t,b≤1:=by
 intro b h
 unfold wS wy wA at h
 split at h
 · exact zw _ _ b h
 · simp only[VY]at h
   rcases h with h|h|h|h
   · exact zw _ _ b h
   · exact zc _ _ _ b h
   · exact zw _ _ b h
   · exact zc _ _ _ b h
theorem M8 (ts:List Tok) (la lb Lc:List Int):∀b∈wV ts la lb Lc,b≤1:=by
 intro b h
 unfold wV at h
 simp only[VY]at h
 rcases h with h|h|h|h|h|h|h|h
 · exact zc _ _ _ b h
 · exact zc _ _ _ b h
 · exact zc _ _ _ b h
 · exact zc _ _ _ b h
 · obtain⟨y,_,hy⟩:=List.mem_flatMap.1 h
   exact zc _ _ _ b hy
 · obtain⟨y,_,hy⟩:=List.mem_flatMap.1 h
   exact zw _ _ b hy
 · obtain⟨y,_,hy⟩:=List.mem_flatMap.1 h
   exact Ir _ _ y b hy
 · exact zw _ _ b h
def BC (t:ByteArray) (p:Nat) (bs:List Nat):Prop:=p+bs.length≤8* t.size∧∀i,i<bs.length→ym t (p+i)=bs.getD i 0
theorem BC.app {t:ByteArray} {p:Nat} {a b:List Nat} (h:BC t p (a++b)):BC t p a∧BC t (p+a.length) b:=by
 obtain⟨h1,h2⟩:=h
 rw[vV]at h1 h2
 refine⟨⟨by omega,fun i hi=> ?_⟩,⟨by omega,fun i hi=> ?_⟩⟩
 · have:=h2 i (by omega)
   rw[this,Vx,Vx,VQ hi]
 · have:=h2 (a.length+i) (by omega)
   rw[vz,this,Vx,Vx,VL (by omega),Nat.add_sub_cancel_left]
theorem E3 (l:List Nat) (h:Iu l) (i:Nat):(((bytesOf l)[i]?).map (·.toNat)).getD 0=l.getD i 0:=by
 have e:(bytesOf l)[i]?=(l.map UInt8.ofNat)[i]?:=by
  show(l.map UInt8.ofNat).toArray[i]?=_
  simp
 rw[e,vJ,Vx]
 cases hx:l[i]? with
 |none=>rfl
 | some x =>
   have:=h x (vE hx)
   simp [UInt8.toNat_ofNat_of_lt' this]
theorem K2 {x b k j:Nat} (hb:b≤1) (hx:x<2^k):(x|||b* 2^k)/2^j%2=if j=k then b else x/2^j%2:=by
 rw[←Nat.toNat_testBit,←Nat.toNat_testBit,Nat.testBit_or]
 have hb':b=0∨b=1:=by omega
 rcases hb' with rfl|rfl
 · rw[Nat.zero_mul,Nat.zero_testBit,Bool.or_false]
   split
   · rename_i e;subst e
     rw[Nat.testBit_lt_two_pow hx];rfl
   · rfl
 · rw[Nat.one_mul,Nat.testBit_two_pow]
   split
   · rename_i e;subst e;simp
   · rename_i e
     have:decide (k=j)=false:=by simp;omega
     rw[this,Bool.or_false]
structure J0 (out:List Nat) (bs:List Nat):Prop where
 len:out.length=(bs.length+7)/8
 bit:∀j,j<bs.length→out.getD (j/8) 0/2^(j%8)%2=bs.getD j 0
 top:bs.length%8≠0→out.getD (bs.length/8) 0<2^(bs.length%8)
theorem J0.step {out bs : List Nat} {b : Nat} (hb : b ≤ 1) (v : J0 out bs) : J0 (w9 out bs.length b) (bs ++ [b]) := by
 obtain⟨len,bit,top⟩:=v
 obtain⟨n,hn⟩:∃n,n=bs.length:=⟨_,rfl⟩
 rw[←hn]at len bit top ⊢
 obtain⟨o,ho⟩:∃o,o=if n%8=0 then out++[0]else out:=⟨_,rfl⟩
 have es:w9 out n b=o.set (n/8) (o.getD (n/8) 0|||b* 2^(n%8)):=by rw[ho];rfl
 have ol:n/8<o.length:=by
  rw[ho];split
  · rw[vV,len];simp;omega
  · rw[len];omega
 have og:∀j,j<n→o.getD (j/8) 0=out.getD (j/8) 0:=fun j hj=>by
  rw[ho];split
  · rw[Vx,VQ (by omega),←Vx]
  · rfl
 have ox:o.getD (n/8) 0<2^(n%8):=by
  by_cases c:n%8=0
  · rw[ho,if_pos c,Vx,VL (by omega),c]
    have:n/8-out.length=0:=by omega
    rw[this];simp
  · rw[ho,if_neg c];exact top c
 have gn:∀m,(w9 out n b).getD m 0=if m=n/8 then o.getD (n/8) 0|||b* 2^(n%8)else o.getD m 0:=fun m=>by
  rw[es]
  by_cases e:m=n/8
  · subst e
    rw[if_pos rfl,Vx,VV,if_pos rfl,if_pos ol];rfl
  · rw[if_neg e,getD_set_ne (fun q=>e q.symm)]
 have bl:(bs++[b]).length=n+1:=by simp [hn]
 refine⟨by rw[bl,Dr len],fun j hj=> ?_,fun hc=> ?_⟩
 · rw [bl] at hj
   rw[gn]
   by_cases e:j=n
   · subst e
     rw[if_pos rfl,K2 hb ox,if_pos rfl,Vx,hn,VL (vB _)];simp
   · have hjn:j<n:=by omega
     have gb:(bs++[b]).getD j 0=bs.getD j 0:=by rw[Vx,VQ (by omega),←Vx]
     rw[gb,←bit j hjn,←og j hjn]
     split
     · rename_i e2
       rw[K2 hb ox,if_neg (by omega),e2]
     · rfl
 · rw[bl]at hc ⊢
   have e8:(n+1)/8=n/8:=by omega
   have m8:(n+1)%8=n%8+1:=by omega
   rw[gn,e8,if_pos rfl,m8,LX ox,Nat.pow_succ]
   have:b* 2^(n%8)≤1* 2^(n%8):=vD _ hb
   omega
theorem Ky:∀bs:List Nat,(∀b∈bs,b≤1)→J0 (wJ bs) bs:=by
 have key:∀(q p:List Nat) (out:List Nat),(∀b∈q,b≤1)→J0 out p→J0 (yc q p.length out) (p++q):=by
  intro q
  induction q with
  |nil=>intro p out _ h;simpa [yc]using h
  | cons x q ih =>
    intro p out hb h
    have:=ih (p++[x]) (w9 out p.length x) (fun b q=>hb b (by simp [q])) (h.step (hb x (by simp)))
    rw[vV,VH]at this
    exact this
 intro bs hb
 exact key bs [] [] hb ⟨rfl,fun j hj=>by simp at hj,fun h=>by simp at h⟩
theorem J8 (bs:List Nat) (hb:∀b∈bs,b≤1):BC (bytesOf (wJ bs)) 0 bs:=by
 have v:=Ky bs hb
 have y:=Kx bs hb
 refine⟨by rw[xC,v.len];omega,fun i hi=> ?_⟩
 rw[vF]
 unfold ym
 rw[E3 _ y]
 exact v.bit i hi
theorem JX {t:ByteArray} {p:Nat} {v:Nat}:∀(n:Nat),(∀i,i<n→ym t (p+i)=v/2^i%2)→wz t p n=v%2^n
 |0,h=>by simp [wz,Nat.mod_one]
 | n + 1, h => by
   rw[wz,JX n fun i hi=>h i (by omega),h n (by omega),Nat.pow_succ,Nat.mod_mul,Nat.mul_comm]
theorem H2 (v:Nat):∀m i j,j<m→(B5 v i m).getD j 0=v/2^(i+j)%2
 |0,i,j,h=>by omega
 |m+1,i,0,h=>rfl
 | m + 1, i, j + 1, h => by
   show(B5 v (i+1) m).getD j 0=_
   rw[H2 v m (i+1) j (by omega)]
   congr 3;omega
theorem BC.put {t:ByteArray} {p v n:Nat} (h:BC t p (wA v n)) (hv:v<2^n):wz t p n=v∧p+n≤8* t.size:=by
 obtain⟨h1,h2⟩:=h
 unfold wA at h1 h2
 rw[wE]at h1 h2
 refine⟨?_,h1⟩
 rw[JX n fun i hi=>by rw[h2 i hi,H2 v n 0 i hi,vF],Nat.mod_eq_of_lt hv]
theorem Im (n:Nat):∀(q p:List Int),∃r,syms (p++q) n=syms p n++r
 |[],p=>⟨[],by simp⟩
 | x :: q, p => by
   obtain⟨r,hr⟩:=Im n q (p++[x])
   rw[VH,BA]at hr
   exact⟨_,by rw[show p++x::q=p++([x]++q)by simp,hr,VH]⟩
theorem JS {l:List Int} {s n:Nat} (hs:s<l.length) (hn:1≤n) (e:l.getD s 0=(n:Int)):(syms l n)[xM (l.take s) n]?=some (s:Int):=by
 have e2:l.take (s+1)=l.take s++[l.getD s 0]:=by
  rw[List.take_add_one,Vz hs,Vx,Vz hs];rfl
 obtain⟨r,hr⟩:=Im n (l.drop (s+1)) (l.take (s+1))
 rw[List.take_append_drop,e2,BA,if_pos ⟨by omega,e⟩]at hr
 have ls:=Bh (l.take s) n
 have lt:(l.take s).length=s:=by rw[VZ];omega
 rw[hr,VH,VL (by omega),ls,Wo,lt];rfl
theorem Dm (l:List Int) (n:Nat):∀m,(wk l n+xM l n)* 2^(m+1)≤wk l (n+m+1)
 |0=>by rw[wk];simp
 | m + 1 => by
   have ih:=Dm l n m
   rw[show n+(m+1)+1=(n+m+1)+1 by omega,wk,Int.pow_succ,←Int.mul_assoc]
   omega
theorem Na {l:List Int} {n m:Nat} {c:Nat} (hc:wk l (n+m+1)≤(c:Int)):yQ l n ((c/2^(m+1):Nat):Int)=none:=by
 have g:=Dm l n m
 have h1:wk l n+xM l n≤((c/2^(m+1):Nat):Int):=by
  have p2:((2^(m+1):Nat):Int)=(2:Int)^(m+1):=by push_cast;rfl
  have:(wk l n+xM l n)* ((2^(m+1):Nat):Int)≤(c:Int):=by rw[p2];omega
  rw[Int.natCast_ediv]
  exact(Int.le_ediv_iff_mul_le (by have:=Nat.pow_pos (n:=m+1) (show 0<2 by omega);omega)).2 this
 unfold yQ
 split
 · rw[VS]
   rw[Bh];omega
 · rfl
theorem Ih {t : ByteArray} {l : List Int} {s N c : Nat} (hs : s < l.length) (hN : 1 ≤ N) (e : l.getD s 0 = (N : Int)) (hc : (c : Int) = wk l N + xM (l.take s) N) : ∀ (m n k p : Nat), n + m = N → m + 1 ≤ k → BC t p (yC c (m + 1)) → Av t l k n (c / 2 ^ (m + 1)) p = some ((s : Int), p + (m + 1))
 |m,n,0,p,hn,hk,hb=>by omega
 | m, n, k + 1, p, hn, hk, hb => by
   have hb1:BC t p ([c/2^m%2]++yC c m):=hb
   obtain⟨b1,b2⟩:=hb1.app
   have v1:wz t p 1=c/2^m%2:=by
    have:=b1.2 0 (by simp)
    simp only[Nat.add_zero,List.getD_cons_zero]at this
    simp [wz,this]
   have pl:p+1≤8* t.size:=b1.1
   have vv:c/2^(m+1)* 2+c/2^m%2=c/2^m:=by
    rw[Nat.pow_succ,←Nat.div_div_eq_div_mul];omega
   rw[Av,if_pos pl,v1,vv]
   cases m with
   | zero =>
     have:yQ l n ((c/2^0:Nat):Int)=some (s:Int):=by
      have hn':n=N:=by omega
      subst hn'
      unfold yQ
      rw[Nat.pow_zero,Nat.div_one,if_pos (by omega)]
      have:((c:Int)-wk l n).toNat=xM (l.take s) n:=by omega
      rw[this]
      exact JS hs hN e
     rw[this]
   | succ m =>
     have:yQ l n ((c/2^(m+1):Nat):Int)=none:=Na (by rw[show n+m+1=N by omega];omega)
     rw[this]
     have r:=Ih hs hN e hc m (n+1) k (p+1) (by omega) (by omega) b2
     rw[r]
     simp only[vp,vr,true_and];omega
theorem MA {t:ByteArray} {l:List Int} (hl:0≤wC l 15) (hr:∀y∈l,0≤y∧y<16) {s p:Nat} (hs:s<l.length) (h1:1≤l.getD s 0) (hb:BC t p (wy (v7 l) s)):Av t l 15 1 0 p=some ((s:Int),p+(wy (v7 l) s).length):=by
 obtain⟨n,v,g,n1,n2,n3,n4⟩:=(Gp hl hr hs h1).bits
 have g2:(v7 l)[s]?=some (Ac l s):=by
  unfold v7
  rw[vJ,V6 hs];rfl
 rw[g2]at g
 have g3:=vm g
 unfold Ac at g3
 rw[if_pos h1]at g3
 have e1:l.getD s 0=(n:Int):=Wj Prod.fst g3
 have e2:wk l (l.getD s 0).toNat+xM (l.take s) (l.getD s 0).toNat=(v:Int):=Wj Prod.snd g3
 have tn:((n:Nat):Int).toNat=n:=by omega
 rw[e1,tn]at e2
 rw[n4]at hb ⊢
 rw[xm]
 obtain⟨m,rfl⟩:∃m,n=m+1:=⟨n-1,by omega⟩
 have:=Ih hs n1 e1 e2.symm m 1 15 p (by omega) (by omega) hb
 rw[Nat.div_eq_of_lt n3]at this
 exact this
theorem Gn {l:List Int} {s:Nat} (o:BH (v7 l) s):s<l.length∧1≤l.getD s 0:=by
 have hs:s<l.length:=by have:=o.lt;rwa [zF]at this
 obtain⟨n,v,g,n1,_⟩:=o
 have g2:(v7 l)[s]?=some (Ac l s):=by
  unfold v7
  rw[vJ,V6 hs];rfl
 rw[g2]at g
 have g3:=vm g
 unfold Ac at g3
 refine⟨hs, ?_⟩
 apply VX
 intro c
 rw[if_neg c]at g3
 have:=Wj Prod.fst g3
 simp at this
 omega
theorem E7 {most:Int} (d:Nat):∀(n:Nat) (out:List Nat),(out.length:Int)+n≤most→Di most d n out=.ok (Gc d n out)
 |0,out,h=>rfl
 | n + 1, out, h => by
   rw[Di,if_neg (by omega),Gc]
   exact E7 d n _ (by simp;omega)
structure CK (l:List Int):Prop where
 left:0≤wC l 15
 Nu:∀y∈l,0≤y∧y<16
theorem CK.sym {l:List Int} (b:CK l) {t:ByteArray} {s p:Nat} (o:BH (v7 l) s) (hb:BC t p (wy (v7 l) s)):Av t l 15 1 0 p=some ((s:Int),p+(wy (v7 l) s).length):=
 MA b.left b.Nu (Gn o).1 (Gn o).2 hb
theorem Hk (o:List Nat) (t:Tok):o.length≤(wR o t).length:=by
 unfold wR
 split
 · simp
 · rw[Co];omega
theorem Hl:∀(ts:List Tok) (o:List Nat),o.length≤(ya ts o).length
 |[],o=>vB _
 |t::r,o=>vT (Hk o t) (Hl r _)
theorem D3 {t : ByteArray} {la lb : List Int} (bA : CK la) (bB : CK lb) (o256 : BH (v7 la) 256) {most : Int} : ∀ (ts : List Tok) (k p : Nat) (out : List Nat), BC t p (xp (v7 la) (v7 lb) ts ++ wy (v7 la) 256) → (∀ x ∈ ts, HM (v7 la) (v7 lb) x) → wF out.length ts = true → ((ya ts out).length : Int) ≤ most → ts.length < k →
 yJ t most la lb k p out=.ok (p+(xp (v7 la) (v7 lb) ts++wy (v7 la) 256).length,ya ts out)
 |ts,0,p,out,hb,ok,hm,hl,hk=>by omega
 | [], k + 1, p, out, hb, ok, hm, hl, hk => by
   have hb':BC t p (wy (v7 la) 256):=hb
   have s:=bA.sym o256 hb'
   rw[yJ,s]
   simp only
   rw[if_neg (by omega),if_pos (by omega)]
   rfl
 | x :: r, k + 1, p, out, hb, ok, hm, hl, hk => by
   have ox:=ok x (by simp)
   have e:xp (v7 la) (v7 lb) (x::r)++wy (v7 la) 256=wS (v7 la) (v7 lb) x++(xp (v7 la) (v7 lb) r++wy (v7 la) 256):=by
    unfold xp;rw[VJ,VH]
   rw[e]at hb ⊢
   obtain⟨h1,h2⟩:=hb.app
   have gl:=Hl r (wR out x)
   have hl':((ya r (wR out x)).length:Int)≤most:=hl
   rw[wF]at hm
   cases hst:wW out.length x with
   |none=>rw[hst]at hm;cases hm
   | some s' =>
     rw[hst]at hm
     simp only at hm
     by_cases k8:8192<s'
     · rw[if_pos k8]at hm;cases hm
     rw[if_neg k8]at hm
     unfold wW at hst
     have rec_:s'=((wR out x).length:Nat)→yJ t most la lb k (p+(wS (v7 la) (v7 lb) x).length) (wR out x)=.ok (p+(wS (v7 la) (v7 lb) x++(xp (v7 la) (v7 lb) r++wy (v7 la) 256)).length,ya r (wR out x)):=fun es=>by
      have:=D3 bA bB o256 r k _ (wR out x) h2 (fun y hy=>ok y (by simp [hy])) (by rw[←es];exact hm) hl' (by simp at hk;omega)
      rw[this, @vV _ (wS _ _ _),vz]
     rw[ya]
     by_cases c0:x.len=0
     · rw[if_pos c0]at hst
       by_cases c:x.lit<0∨255<x.lit∨x.wL≠0
       · rw[if_pos c]at hst;cases hst
       rw[if_neg c]at hst
       obtain rfl:=vm hst
       have tb:wS (v7 la) (v7 lb) x=wy (v7 la) x.lit.toNat:=by rw[wS,if_pos c0]
       rcases ox with ⟨_,q2,q3⟩|⟨q,_⟩
       · have es:wR out x=out++[x.lit.toNat]:=by unfold wR;rw[if_pos c0]
         rw[es]at gl hl' rec_ ⊢
         rw[vV,V8]at gl rec_
         rw[tb]at h1 rec_ ⊢
         have s:=bA.sym q3 h1
         rw[yJ,s]
         simp only
         have tl:((x.lit.toNat:Nat):Int)<256:=by omega
         rw[if_pos tl,if_neg (by omega)]
         have tn:(((x.lit.toNat:Nat):Int)).toNat=x.lit.toNat:=by omega
         rw[tn]
         exact rec_ (by push_cast;rfl)
       · omega
     · rw[if_neg c0]at hst
       by_cases c:x.len<3∨258<x.len∨x.wL<1∨32768<x.wL∨(out.length:Int)<x.wL∨x.lit≠0
       · rw[if_pos c]at hst;cases hst
       rw[if_neg c]at hst
       obtain rfl:=vm hst
       obtain⟨L,hL⟩:∃y:Nat,x.len=y:=VF (by omega)
       obtain⟨D,hD⟩:∃y:Nat,x.wL=y:=VF (by omega)
       have Lt:x.len.toNat=L:=by omega
       have Dt:x.wL.toNat=D:=by omega
       rcases ox with ⟨q,_⟩|⟨_,_,_,_,q5,q6⟩
       · exact absurd q c0
       rw[Lt]at q5
       rw[Dt]at q6
       have es:wR out x=Gc D L out:=by unfold wR;rw[if_neg c0,Lt,Dt]
       have cl:=Co D L out
       have tb:wS (v7 la) (v7 lb) x=wy (v7 la) (xB L)++(wA (y9 L) (yP L)++(wy (v7 lb) (xG D)++wA (zj D) (yT D))):=by rw[wS,if_neg c0,Lt,Dt]
       rw[es]at gl hl' rec_ ⊢
       rw[tb]at h1 rec_ ⊢
       obtain⟨i1,i2⟩:=h1.app
       obtain⟨i3,i4⟩:=i2.app
       obtain⟨i5,i6⟩:=i4.app
       have s1:=bA.sym q5 i1
       have lb_:=DI (k:=L) (by omega) (by omega)
       have db_:=DE (k:=D) (by omega) (by omega)
       have ls:=yV (k:=L) (by omega) (by omega)
       have ds:=yU (k:=D) (by omega) (by omega)
       obtain⟨a,b,hab⟩:=AE ls.1 ls.2.1
       obtain⟨a',b',hab'⟩:=zU ds.1
       have ea:wD (lenOf (xB L))=a:=by rw[hab];rfl
       have eb:yP L=b:=by unfold yP;rw[hab];rfl
       have ea':wD (wI (xG D))=a':=by rw[hab'];rfl
       have eb':yT D=b':=by unfold yT;rw[hab'];rfl
       have v1:=i3.put lb_.2
       have v2:=i6.put db_.2
       have pl:∀v n,(wA v n).length=n:=fun v n=>by unfold wA;exact wE v n 0
       rw[pl]at i5 v2
       have s2:=bB.sym q6 i5
       have eL:a+y9 L=L:=by unfold y9;rw[ea];omega
       have eD:a'+zj D=D:=by unfold zj;rw[ea'];omega
       rw[yJ,s1]
       simp only
       rw[if_neg (by omega),if_neg (by omega)]
       have tn:(((xB L:Nat):Int)).toNat=xB L:=by omega
       have tn2:(((xG D:Nat):Int)).toNat=xG D:=by omega
       have cp:Dh t most lb (xB L) (p+(wy (v7 la) (xB L)).length) out=.ok (p+(wy (v7 la) (xB L)++(wA (y9 L) (yP L)++(wy (v7 lb) (xG D)++wA (zj D) (yT D)))).length,Gc D L out):=by
        unfold Dh
        rw[hab]
        simp only
        rw[←eb,if_pos v1.2,s2]
        simp only
        rw[tn2,hab']
        simp only
        rw[←eb',v2.1,v1.1,eL,eD,if_pos ⟨v2.2,by omega⟩,E7 D L out (by omega)]
        simp only[vV,pl,Except.ok.injEq,vr,and_true]
        omega
       rw[tn,cp]
       simp only
       exact rec_ (by rw[cl,hL];push_cast;rfl)
theorem CK.LP {C l:List Int} {K k:Nat} (hC:∀y∈C,0≤y∧y≤2147483647) (h2:2≤C.length) (hl:C.length≤288) (hk:k≤C.length) (hk1:1≤k) (r:xU 15 K (xA C)) (e:l=zt (xh C K) k):CK l∧((∃y∈C,0<y)→wH l=0)∧((∀y∈C,¬0<y)→∀y∈l,y=0):=by
 obtain⟨a,b,c,d,l0⟩:=D7 (m:=0) hC h2 hl hk hk1 r e
 obtain⟨f1,f2,f3,f4,f5⟩:=zy hC h2 hl (by omega) r
 refine⟨⟨l0,b⟩,fun ex=> ?_,fun nn y hy=> ?_⟩
 · rw[yq (by omega) (by omega) b l0,if_pos]
   rw[e,DD (fun y hy=>(f2 y hy).1) k 15]
   exact f4 ex
 · rw[e,f5 nn]at hy
   exact VU (List.mem_of_mem_take hy)
theorem C9:∀(l:List Int) (a:Int),(∀y∈l,y=0)→My l a=a
 |[],a,h=>rfl
 | y :: l, a, h => by
   have:=h y (by simp)
   subst this
   rw[My]
   first
    |exact C9 l a fun z hz=>h z (by simp [hz])
    |(simp;exact C9 l a fun z hz=>h z (by simp [hz]))
theorem Cu {t:ByteArray} {Lc:List Int} (bk:CK Lc) (many:Nat):∀(q acc:List Int) (f p:Nat),BC t p (yS (v7 Lc) q)→(∀y∈q,BH (v7 Lc) y.toNat)→(∀y∈q,0≤y∧y<16)→acc.length+q.length=many→q.length<f→xI t Lc many f acc p=some (acc++q,p+(yS (v7 Lc) q).length)
 |q,acc,0,p,hb,ok,hr,hm,hf=>by omega
 | [], acc, f + 1, p, hb, ok, hr, hm, hf => by
   simp at hm
   rw[xI,if_neg (by omega),if_neg (by omega)]
   simp [yS]
 | y :: q, acc, f + 1, p, hb, ok, hr, hm, hf => by
   have e:yS (v7 Lc) (y::q)=wy (v7 Lc) y.toNat++yS (v7 Lc) q:=by unfold yS;rw[VJ]
   rw[e]at hb ⊢
   obtain⟨h1,h2⟩:=hb.app
   have s:=bk.sym (ok y (by simp)) h1
   have yr:=hr y (by simp)
   have ty:((y.toNat:Nat):Int)=y:=by omega
   simp only[Vy]at hm hf
   rw[xI,if_pos (by omega),s]
   simp only
   rw[ty]
   have ag:Ax t y acc (p+(wy (v7 Lc) y.toNat).length)=some (y,1,p+(wy (v7 Lc) y.toNat).length):=by
    unfold Ax
    rw[if_neg (by omega),if_neg (by omega),if_neg (by omega)]
   rw[ag]
   simp only
   have r:=Cu bk many q (acc++[y]) f _ h2 (fun z hz=>ok z (by simp [hz])) (fun z hz=>hr z (by simp [hz])) (by simp;omega) (by omega)
   have e1:List.replicate 1 y=[y]:=rfl
   rw[e1,r,vV,←vz,VH];rfl
def EU (L:List Int):List Int→List Int→List Int
 |[],o=>o
 |s::r,o=>EU L r (o.set s.toNat (L.getD s.toNat 0))
theorem HS {t:ByteArray} {L:List Int} (hr:∀y∈L,0≤y∧y<8):∀(os:List Int) (p:Nat) (o:List Int),BC t p (zm (os.map fun s=>L.getD s.toNat 0))→(∀s∈os,s.toNat<L.length)→Gu t os p o=EU L os o
 |[],p,o,hb,hs=>rfl
 | s :: os, p, o, hb, hs => by
   have e:zm ((s::os).map fun s=>L.getD s.toNat 0)=wA (L.getD s.toNat 0).toNat 3++zm (os.map fun s=>L.getD s.toNat 0):=by unfold zm;rw[VK,VJ]
   rw[e]at hb
   obtain⟨h1,h2⟩:=hb.app
   have hl:=hs s (by simp)
   have yr:0≤L.getD s.toNat 0∧L.getD s.toNat 0<8:=hr _ (by rw[Vx,Vz hl];exact VP hl)
   have v:=h1.put (by omega)
   have pl:(wA (L.getD s.toNat 0).toNat 3).length=3:=by unfold wA;exact wE _ _ _
   rw[pl]at h2
   rw[Gu,EU,v.1,HS hr os _ _ h2 (fun z hz=>hs z (by simp [hz]))]
   congr 2;omega
theorem HQ (L:List Int):∀(os o:List Int),(EU L os o).length=o.length
 |[],o=>rfl
 |s::os,o=>by rw[EU,HQ L os,VT]
theorem HP (L : List Int) : ∀ (os o : List Int) (j : Nat), j < o.length → (EU L os o).getD j 0 = if (∃ s ∈ os, s.toNat = j) then L.getD j 0 else o.getD j 0
 |[],o,j,hj=>by simp [EU]
 | s :: os, o, j, hj => by
   rw[EU,HP L os _ j (by rw[VT];exact hj)]
   by_cases c:∃s∈os,s.toNat=j
   · rw[if_pos c,if_pos (by obtain⟨u,hu,e⟩:=c;exact⟨u,by simp [hu],e⟩)]
   · rw[if_neg c]
     by_cases e:s.toNat=j
     · subst e
       rw[if_pos ⟨s,by simp,rfl⟩,Vx,VV,if_pos rfl,if_pos hj];rfl
     · rw[getD_set_ne e,if_neg]
       rintro ⟨u,hu,e2⟩
       rcases vR.1 hu with q|q
       · subst q;exact e e2
       · exact c ⟨u,q,e2⟩
theorem Kw:∀j:Nat,j<19→∃i:Nat,i<19∧we[i]?=some (j:Int):=by
 intro j hj
 have:∀j:Nat,j<19→∃i:Nat,i<19∧we[i]?=some (j:Int):=by decide
 exact this j hj
theorem LZ {L : List Int} (hl : L.length = 19) (h0 : ∀ y ∈ L, 0 ≤ y) : EU L (we.take (wK (we.map fun s => L.getD s.toNat 0) 4 19)) (List.replicate 19 0) = L := by
 apply List.ext_getElem?
 intro j
 have fl:=HQ L (we.take (wK (we.map fun s=>L.getD s.toNat 0) 4 19)) (List.replicate 19 0)
 rw[VR]at fl
 by_cases hj:j<19
 · have g:=HP L (we.take (wK (we.map fun s=>L.getD s.toNat 0) 4 19)) (List.replicate 19 0) j (by simpa using hj)
   rw[Vz (by omega),Vz (by omega)]
   rw[Vx,Vz (by omega)]at g
   congr 1
   have g':(EU L (we.take (wK (we.map fun s=>L.getD s.toNat 0) 4 19)) (List.replicate 19 0))[j]'(by omega)=_:=g
   rw[g']
   have e:L.getD j 0=L[j]'(by omega):=by rw[Vx,Vz (by omega)];rfl
   split
   · exact e
   · rename_i c
     rw[Bz hj]
     obtain⟨i,hi,oi⟩:=Kw j hj
     have hk:wK (we.map fun s=>L.getD s.toNat 0) 4 19≤i:=by
      apply VX
      intro q
      refine c ⟨(j:Int), ?_,by omega⟩
      refine vE (i:=i) ?_
      rw[vU,if_pos (by omega),oi]
     have z:=zP (we.map fun s=>L.getD s.toNat 0) 4 19 i hk hi
     have tj:((j:Nat):Int).toNat=j:=by omega
     rw[Vx,vJ,oi]at z
     simp only[VG,Option.getD_some,tj]at z
     have nn:=h0 _ (VP (l:=L) (n:=j) (by omega))
     omega
 · rw[VS (by omega),VS (by omega)]
theorem M7 {t : ByteArray} {ts : List Tok} {KA KB KC : Nat} {la lb Lc : List Int} (ok : Dd ts KA KB KC la lb Lc) (hb : BC t 0 (wV ts la lb Lc)) (hm : wF 0 ts = true) {most : Int} (hl : ((ya ts []).length : Int) ≤ most) : Ke t most 3 [] = .ok ((wV ts la lb Lc).length, ya ts []) ∧ wz t 0 1 = 1 ∧ wz t 1 2 = 2 ∧ 3 ≤ 8 * t.size := by
 obtain⟨AM,hn,tok,ra,rb,ea,eb,hall,rc,ec,hrow,ca,cb,cc,zo,LR,BG⟩:=ok
 obtain⟨a1,a2,a3⟩:=He ts hn
 obtain⟨b1,b2⟩:=Hf ts hn
 obtain⟨x1,x2,x3,x4,x5⟩:=D7 (m:=0) a2 (by omega) (by omega) (by omega) (by omega) ra ea
 obtain⟨y1,y2,y3,y4,y5⟩:=D7 (m:=0) b2 (by omega) (by omega) (by omega) (by omega) rb eb
 obtain⟨bkA,chA,_⟩:=CK.LP a2 (by omega) (by omega) (by omega) (by omega) ra ea
 obtain⟨bkB,chB,zB⟩:=CK.LP b2 (by omega) (by omega) (by omega) (by omega) rb eb
 have c1:(xN (la++lb) (List.replicate 19 0)).length=19:=by rw[AX,VR]
 have c2:∀y∈xN (la++lb) (List.replicate 19 0),0≤y∧y≤2147483647:=fun y hy=>by
  have:=AY (la++lb) _ 0 (by omega) (AG 19) y hy
  rw[vV]at this
  omega
 obtain⟨f1,f2,f3,f4,f5⟩:=zy c2 (by omega) (by omega) (by omega) rc
 rw[←ec]at f1 f2 f3 f4 f5
 have lLc:Lc.length=19:=by omega
 have hit:=DW (la++lb) (List.replicate 19 0) (fun y hy=>(AG 19 y hy).1) (by rw[VR])
 have exC:∃y∈xN (la++lb) (List.replicate 19 0),0<y:=by
  obtain⟨z,hz⟩:=List.exists_mem_of_ne_nil (la++lb) (fun q=>by
   have:=Wj List.length q
   rw[vV,VC]at this
   omega)
  have h:=hit z hz (hall z hz)
  refine⟨_, ?_,show 0<(xN (la++lb) (List.replicate 19 0)).getD z.toNat 0 by omega⟩
  have zl:z.toNat<(xN (la++lb) (List.replicate 19 0)).length:=by have:=hall z hz;omega
  rw[Vx,Vz zl]
  exact VP zl
 have l0:=f4 exC
 have r16:∀y∈Lc,0≤y∧y<16:=fun y hy=>by have:=f2 y hy;omega
 have bkC:CK Lc:=⟨by omega,r16⟩
 have chC:wH Lc=0:=by rw[yq (by omega) (by omega) r16 (by omega),if_pos l0]
 have exA:∃y∈dA ts,0<y:=by
  have zl:256<(dA ts).length:=by omega
  refine⟨(dA ts).getD 256 0, ?_,by omega⟩
  rw[Vx,Vz zl]
  exact VP zl
 have chA':=chA exA
 have chB':¬(wH lb≠0∧yM lb=false):=by
  rintro ⟨q1,q2⟩
  by_cases c:∃y∈dB ts,0<y
  · exact q1 (chB c)
  · have:=C9 lb 0 (zB fun y hy q=>c ⟨y,hy,q⟩)
    unfold yM at q2
    rw[this]at q2
    simp at q2
 obtain⟨R,hR⟩:∃R,R=we.map (fun o=>Lc.getD o.toNat 0):=⟨_,rfl⟩
 obtain⟨k,hk⟩:∃k,k=wK R 4 19:=⟨_,rfl⟩
 have uk:=xz R 4 19
 rw[←hk]at uk
 have eD:wV ts la lb Lc=wA 5 3++(wA (la.length-257) 5++(wA (lb.length-1) 5++(wA (k-4) 4++(zm (R.take k)++(yS (v7 Lc) (la++lb)++(xp (v7 la) (v7 lb) ts++wy (v7 la) 256)))))):=by rw[hk,hR];rfl
 rw[eD]at hb ⊢
 have pl:∀v n,(wA v n).length=n:=fun v n=>by unfold wA;exact wE v n 0
 obtain⟨h1,g1⟩:=hb.app
 rw[pl]at g1
 obtain⟨h2,g2⟩:=g1.app
 rw[pl]at g2
 obtain⟨h3,g3⟩:=g2.app
 rw[pl]at g3
 obtain⟨h4,g4⟩:=g3.app
 rw[pl]at g4
 obtain⟨h5,g5⟩:=g4.app
 obtain⟨h6,g6⟩:=g5.app
 have v2:=h2.put (by omega)
 have v3:=h3.put (by omega)
 have v4:=h4.put (by omega)
 have rl:(zm (R.take k)).length=3* k:=by rw[At,VZ,hR,Wc];show 3* min k 19=_;omega
 rw[rl]at g5 g6 h6
 have rb5:zm (R.take k)=zm ((we.take k).map fun s=>Lc.getD s.toNat 0):=by rw[hR,List.map_take]
 have h5':=h5
 rw[rb5]at h5'
 have own:=HS hrow (we.take k) _ (List.replicate 19 0) h5' (fun s hs=>by have:=Bw s (List.mem_of_mem_take hs);omega)
 have back:=LZ lLc (fun y hy=>(hrow y hy).1)
 rw[←hR,←hk]at back
 rw[back]at own
 have okr:∀y∈la++lb,0≤y∧y<16:=fun y hy=>by
  rcases VY.1 hy with q|q
  · exact x2 y q
  · exact y2 y q
 have h5l:=h5.1
 rw[rl]at h5l
 have h6l:=h6.1
 have g6l:=g6.1
 have ll:(la++lb).length=la.length+lb.length:=vV
 have all:=Cu bkC (la.length+lb.length) (la++lb) [] (8* t.size+1) _ h6 zo okr (by simp) (by
  have:∀D:List Int,(∀y∈D,BH (v7 Lc) y.toNat)→D.length≤(yS (v7 Lc) D).length:=by
   intro D
   induction D with
   |nil=>intro _;simp
   | cons y D ih =>
     intro h
     have:=ih fun z hz=>h z (by simp [hz])
     obtain⟨n,v,_,q1,q2,q3,q4⟩:=(h y (by simp)).bits
     unfold yS at *
     rw[VJ,vV,q4,xm,Vy];omega
  have:=this _ zo
  omega)
 have cod:=D3 bkA bkB BG ts (8* t.size+1) _ [] g6 LR hm hl (by
  have:∀T:List Tok,(∀x∈T,HM (v7 la) (v7 lb) x)→T.length≤(xp (v7 la) (v7 lb) T).length:=by
   intro T
   induction T with
   |nil=>intro _;simp
   | cons x T ih =>
     intro h
     have:=ih fun z hz=>h z (by simp [hz])
     have o:=h x (by simp)
     have one:1≤(wS (v7 la) (v7 lb) x).length:=by
      rcases o with ⟨h1,h2,h3⟩|⟨h1,h2,h3,h4,h5,h6⟩
      · obtain⟨n,v,_,q1,q2,q3,q4⟩:=h3.bits
        rw[wS,if_pos h1,q4,xm];omega
      · obtain⟨n,v,_,q1,q2,q3,q4⟩:=h5.bits
        rw[wS,if_neg (by omega),q4,vV,xm];omega
     unfold xp at *
     rw[VJ,vV,Vy];omega
  have:=this _ LR
  rw[vV]at g6l
  omega)
 have v1:=h1.put (by omega)
 simp only[vF,Nat.reduceAdd,Wd]at v1 v2 v3 v4 own all cod h5l
 have n1:wz t 3 5+257=la.length:=by rw[v2.1];omega
 have n2:wz t 8 5+1=lb.length:=by rw[v3.1];omega
 have n3:wz t 13 4+4=k:=by rw[v4.1];omega
 have lens:zV t (la.length+lb.length) 13=some (la++lb,17+3* k+(yS (v7 Lc) (la++lb)).length):=by
  unfold zV
  simp only[Nat.reduceAdd,n3]
  rw[if_pos (by omega),if_pos (by omega),own,if_pos chC,all]
 have tk:(la++lb).take la.length=la:=List.take_left' rfl
 have dr:(la++lb).drop la.length=lb:=List.drop_left' rfl
 have g256:la.getD 256 0≠0:=by have:=(Gn BG).2;omega
 refine⟨?_, ?_, ?_,by omega⟩
 · unfold Ke
   simp only[Nat.reduceAdd,n1,n2]
   rw[if_pos (by omega),if_neg (by omega),lens]
   simp only[tk,dr]
   rw[if_neg (by rintro (q|q|q);exact q chA';exact g256 q;exact chB' q),cod]
   simp only[vV,pl,rl,Except.ok.injEq,vr,and_true]
   omega
 · have b0:=h1.2 0 (by rw[pl];omega)
   have e0:(wA 5 3).getD 0 0=1:=by decide
   rw[e0]at b0
   simp [wz,b0]
 · have b1:=h1.2 1 (by rw[pl];omega)
   have b2:=h1.2 2 (by rw[pl];omega)
   have e1:(wA 5 3).getD 1 0=0:=by decide
   have e2:(wA 5 3).getD 2 0=1:=by decide
   rw[e1]at b1
   rw[e2]at b2
   simp only[vF]at b1 b2
   simp [wz,b1,b2]
theorem Hy {s:ByteArray} (hs:s.size≤300) {KA KB KC:Nat} {la lb Lc:List Int} (ok:Dd (tokens s) KA KB KC la lb Lc) {most:Int} (hm1:(s.size:Int)≤most) (hm2:most≤8192):A6 (bytesOf (wJ (wV (tokens s) la lb Lc))) most=.ok (preB s s.size,(bytesOf (wJ (wV (tokens s) la lb Lc))).size):=by
 obtain⟨t1,t2,t3,t4⟩:=Aw s hs s.size 0 (by omega) (by omega)
 have t3':wF 0 (tokens s)=true:=t3
 have t4':ya (tokens s) []=preB s s.size:=t4
 have hb:=J8 (wV (tokens s) la lb Lc) (M8 _ _ _ _)
 obtain⟨d,v1,v2,sz⟩:=M7 ok hb t3' (most:=most) (by rw[t4',zK];omega)
 rw[t4']at d
 have psz:(bytesOf (wJ (wV (tokens s) la lb Lc))).size=((wV (tokens s) la lb Lc).length+7)/8:=by rw[xC,yF]
 generalize bytesOf (wJ (wV (tokens s) la lb Lc))=T at *
 unfold A6
 rw[if_neg (by omega)]
 have bl:AO T most 0 []=.ok (true,(wV (tokens s) la lb Lc).length,preB s s.size):=by
  unfold AO
  simp only[vF]
  rw[if_pos sz,v2]
  simp only[Nat.reduceEqDiff,vS,if_true,reduceIte]
  rw[d]
  simp [v1]
 rw[Bs,bl]
 simp only[if_true,psz]
theorem I0 (s:ByteArray):bytesOf (preB s s.size)=s:=by
 have:preB s s.size=QH s:=by
  apply List.ext_getElem?
  intro i
  by_cases h:i<s.size
  · have g:=E3 (QH s) (QI s) i
    rw[Df]at g
    have l1:=JU s
    rw[Vz (by rw[zK];exact h),Vz (by omega)]
    congr 1
    have a:=H0 s h
    rw[Vx,Vz (by rw[zK];exact h)]at a
    rw[Vx,Vz (by omega)]at g
    exact a.trans g
  · rw[VS (by rw[zK];omega),VS (by rw[JU];omega)]
 rw[this,Df]
theorem DO {w:Nat}:∀(m:Nat) (h:H) (bs:List Nat) (ov:AV),(bs.length+m)%8=0→m<8→Wr h w bs ov→bs.length+m<1000→
 ∃e' h' ov',Lp AP.A [0] AP.f174L0 [(0,.aE w 0)] h=some (.exit 0,e',h')∧Wr h' w (bs++List.replicate m 0) ov'∧Dz h w ov h' ov'
 | 0, h, bs, ov, hm, h8, wr, hb => by
   have gw:=wr.get
   have c:((bs.length%8:Nat):Int)=0:=by omega
   have rm:bj .rem (.int .i64 (bs.length:Int)) (.int .i64 8)=some (.int .i64 0):=by
    have:=KM (a:=bs.length) (n:=8) (by omega)
    rw[c]at this;exact this
   refine⟨[(0,.aE w 0),(7,.bool false)],h,ov,tW ?_,by simpa using wr,Dz.refl h w ov⟩
   simp (disch:=omega)only[go_sem,wc,AP.f174L0,gw,rm]
 | m + 1, h, bs, ov, hm, h8, wr, hb => by
   have gw:=wr.get
   have rm:bj .rem (.int .i64 (bs.length:Int)) (.int .i64 8)=some (.int .i64 ((bs.length%8:Nat):Int)):=KM (a:=bs.length) (n:=8) (by omega)
   have c:¬((bs.length%8:Nat):Int)=0:=by omega
   obtain⟨h1,o1,k1,wr1,f1⟩:=LS wr (b:=0) (by omega) (by omega)
   have k1':aR AP.A 57 [.aE w 0,.int .i64 0] h=_:=k1
   obtain⟨e',h',ov',r1,r2,r3⟩:=DO m h1 (bs++[0]) o1 (by rw[vV,V8];omega) (by omega) wr1 (by rw[vV,V8];omega)
   have e:bs++List.replicate (m+1) 0=bs++[0]++List.replicate m 0:=by rw[List.replicate_succ,VH];rfl
   rw[e]
   refine⟨e',h',ov',tX ?_ r1,r2,f1.trans r3⟩
   clear r1 r2 r3 wr wr1
   generalize ((bs.length%8:Nat):Int)=q at *
   simp (disch:=omega)only[go_sem,wc,AP.f174L0,gw,rm,c,k1']
theorem MJ {h:H} {w:Nat} {bs:List Nat} {ov:AV} (wr:Wr h w bs ov) (m:Nat) (hm:(bs.length+m)%8=0) (h8:m<8) (hb:bs.length+m<1000):
 ∃h' ov',aR AP.A 174 [.aE w 0] h=some (.bL [],h')∧Wr h' w (bs++List.replicate m 0) ov'∧Dz h w ov h' ov':=by
 obtain⟨e',h',ov',r1,r2,r3⟩:=DO m h bs ov hm h8 wr hb
 obtain⟨e2,he⟩:∃e2,aL (aR AP.A) bp AP.f174.body (params 0 [.aE w 0]) h=some (.normal,e2,h'):=by
  refine⟨?_, ?_⟩
  rotate_left
  · simp (disch:=omega)only[go_sem,wc,AP.f174,sX,r1]
    rfl
 exact⟨h',ov',xb (fn:=AP.f174) (e:=e2) (vs:=[]) rfl rfl rfl he rfl,r2,r3⟩
theorem GM {h:H} (hf:h.floor≤h.next):WX h (h.alloc [.aP,.int .i64 0]) h.next [] .aP:=by
 refine⟨⟨by rw[wh rfl];rfl,wM.nil,by simpa using hf,by simp;omega,by simp [AV.id?],fun b hb=>by simp [wJ,yc]at hb⟩,(Ext.refl _).alloc _,vB _,by simp,fun j hj=>by simp [AV.id?]at hj⟩
def xe (n:Nat):List Nat:=wA 1 3++(List.replicate 5 0++(wA n 16++wA (65535-n) 16))
def xX (s:ByteArray):ByteArray:=bytesOf (wJ (xe s.size))++s
theorem GK (s:ByteArray):(xX s).size=s.size+5:=by
 unfold xX
 rw[ByteArray.size_append,xC,yF]
 simp [xe,wA,wE];omega
theorem KL (h:H) (s:ByteArray) (hs:s.size≤300):aR AP.A 170 [.str s] h=some (.bL [.str (xX s),.int .i64 0],h):=by
 obtain⟨h1,eh1⟩:∃g,g=h.dQ.alloc [.aP,.int .i64 0]:=⟨_,rfl⟩
 have x0:=GM (h:=h.dQ) (by simp)
 rw[←eh1]at x0
 obtain⟨h2,o2,k2,w2,f2⟩:=zR x0.wr 1 3 (by omega) (by omega) (by simp)
 obtain⟨h3,o3,k3,w3,f3⟩:=MJ w2 5 (by simp [wA,wE]) (by omega) (by simp [wA,wE])
 obtain⟨h4,o4,k4,w4,f4⟩:=zR w3 s.size 16 (by omega) (by omega) (by simp [wA,wE])
 obtain⟨h5,o5,k5,w5,f5⟩:=zR w4 (65535-s.size) 16 (by omega) (by omega) (by simp [wA,wE])
 have k6:=GN w5
 have e:[]++wA 1 3++List.replicate 5 0++wA s.size 16++wA (65535-s.size) 16=xe s.size:=by
  unfold xe;simp only[Wd,VH]
 rw[e]at k6
 have hn:h.dQ.next=h.next:=rfl
 have k2':aR AP.A 33 [.aE h.next 0,.int .i64 1,.int .i64 3] h1=some (.int .i64 0,h2):=k2
 have k4':aR AP.A 33 [.aE h.next 0,.int .i64 s.size,.int .i64 16] h3=some (.int .i64 0,h4):=k4
 have k5':aR AP.A 33 [.aE h.next 0,.int .i64 (65535-(s.size:Int)),.int .i64 16] h4=some (.int .i64 0,h5):=by
  have e:((65535-s.size:Nat):Int)=65535-(s.size:Int):=by omega
  rw[e]at k5;exact k5
 have bz:(bytesOf (wJ (xe s.size))).size=5:=by
  have:=GK s
  unfold xX at this
  rw[ByteArray.size_append]at this;omega
 have ad:bj .add (.str (bytesOf (wJ (xe s.size)))) (.str s)=some (.str (xX s)):=GR (by omega)
 rw[hn]at k3 k6
 refine uL (fn:=AP.f170) (h2:=h5) (e:=[(2,.str (xX s)),(3,.int .i64 0)]) rfl rfl rfl ?_ rfl rfl
 clear x0 w2 w3 w4 w5 f2 f3 f4 f5 k2 k4 k5 e bz
 generalize bytesOf (wJ (xe s.size))=SB at *
 generalize xX s=ST at *
 simp (disch:=omega)only[go_sem,wc,AP.f170,hn,←eh1,k2',k3,k4',k5',k6,ad]
def xP:List Int:=List.replicate 30 5
theorem BQ:wC wO 15=0:=by decide+kernel
theorem CL:wC xP 15=2048:=by decide+kernel
theorem xH:wO.length=288:=by decide+kernel
theorem Aj:∀y∈wO,1≤y∧y<16:=by
 have:wO.all (fun y=>decide (1≤y∧y<16))=true:=by decide+kernel
 intro y hy
 simpa using List.all_eq_true.1 this y hy
theorem Hn:∀y∈xP,1≤y∧y<16:=fun y hy=>by have:=VU hy;omega
theorem ye:CK wO:=⟨by rw[BQ];omega,fun y hy=>by have:=Aj y hy;omega⟩
theorem Ai:CK xP:=⟨by rw[CL];omega,fun y hy=>by have:=Hn y hy;omega⟩
theorem Ce {l:List Int} (b:CK l) (hr:∀y∈l,1≤y∧y<16) {s:Nat} (hs:s<l.length):BH (v7 l) s:=by
 refine Gp b.left b.Nu hs ?_
 rw[Vx,Vz hs]
 exact(hr _ (VP hs)).1
theorem Fe {t:Tok} (o:yN t):HM (v7 wO) (v7 xP) t:=by
 refine LQ (ts:=[]) o (fun h=> ?_) (fun h=> ?_) (fun h=> ?_)
 · rcases o with ⟨_,b,c⟩|⟨a,_⟩
   · exact Ce ye Aj (by rw[xH];omega)
   · omega
 · rcases o with ⟨a,_⟩|⟨a,b,_⟩
   · exact absurd a h
   · have:=yV (k:=t.len.toNat) (by omega) (by omega)
     exact Ce ye Aj (by rw[xH];omega)
 · rcases o with ⟨a,_⟩|⟨a,b,c,d⟩
   · exact absurd a h
   · have:=yU (k:=t.wL.toNat) (by omega) (by omega)
     have l:xP.length=30:=by simp [xP]
     exact Ce Ai Hn (by rw[l];omega)
def yA (ts:List Tok):List Nat:=wA 3 3++(xp (v7 wO) (v7 xP) ts++wy (v7 wO) 256)
theorem IF (h:H) (v:AV) (ts:List Tok) (AM:Ag ts=true) (hn:ts.length≤300) (tok:∀t∈ts,yN t) (rd:xR 3 h v ts.length (wG ts)):aR AP.A 171 [v] h=some (.bL [.str (bytesOf (wJ (yA ts))),.int .i64 0],h):=by
 have rd0:xR 3 h.dQ v ts.length (wG ts):=rd.mono fun i c q=>q
 have k1:=Jt h.dQ v ts (by omega) rd0
 rw[AM]at k1
 obtain⟨h1,eh1⟩:∃g,g=h.dQ.alloc [.aP,.int .i64 0]:=⟨_,rfl⟩
 have x0:=GM (h:=h.dQ) (by simp)
 rw[←eh1]at x0
 obtain⟨h2,o2,k2,w2,f2⟩:=zR x0.wr 3 3 (by omega) (by omega) (by simp)
 have x2:=x0.step w2 f2
 have kf:=Ls h2
 have kc:=Ck h2 (xg wO) wO (by rw[xH];omega) (by rw[xH];omega) (yB h2 wO) (.inl (by rw[yq (by rw[xH];omega) (by rw[xH];omega) ye.Nu ye.left,if_pos BQ]))
 have k5:=Nb h2
 have l5:xP.length=30:=by simp [xP]
 have kc5:=Ck h2 (xg xP) xP (by omega) (by omega) (yB h2 xP) (.inr (by rw[yq (by omega) (by omega) Ai.Nu Ai.left,if_neg (by rw[CL];omega)]))
 obtain⟨h3,o3,k3,x3⟩:=MG (by omega) h.dQ rd0 (yw h.dQ wO) (yw h.dQ xP) (fun t ht=>Fe (tok t ht)) (Ce ye Aj (by rw[xH];omega)) h.dQ.next _ h2 o2 x2 (by simp [wA,wE];omega)
 have k6:=GN x3.wr
 have e:[]++wA 3 3++(xp (v7 wO) (v7 xP) ts++wy (v7 wO) 256)=yA ts:=by unfold yA;rw[Wd]
 rw[e]at k6
 have hn':h.dQ.next=h.next:=rfl
 have k2':aR AP.A 33 [.aE h.next 0,.int .i64 3,.int .i64 3] h1=some (.int .i64 0,h2):=k2
 rw[hn']at k3 k6
 change aR AP.A 23 [] h2=some (xg xP,h2)at k5
 refine uL (fn:=AP.f171) (h2:=h3) (e:=[(2,.str (bytesOf (wJ (yA ts)))),(3,.int .i64 0)]) rfl rfl rfl ?_ rfl rfl
 clear x0 w2 f2 x2 x3 k2 e rd rd0
 generalize bytesOf (wJ (yA ts))=SB at *
 generalize xg wO=I1 at *
 generalize xg xP=I2 at *
 generalize zh wO=C1 at *
 generalize zh xP=C2 at *
 simp (disch:=omega)only[go_sem,wc,AP.f171,hn',k1,←eh1,k2',kf,kc,k5,kc5,k3,k6]
theorem Ga {bs:List Nat}:(bytesOf (wJ bs)).size=(bs.length+7)/8:=by rw[xC,yF]
def D8 (s:ByteArray) (la lb Lc:List Int):ByteArray:=bytesOf (wJ (wV (tokens s) la lb Lc))
def Qg (s:ByteArray):ByteArray:=bytesOf (wJ (yA (tokens s)))
theorem Ja (s:ByteArray) (hs:s.size≤300):(tokens s).length≤300∧(∀t∈tokens s,yN t)∧wF 0 (tokens s)=true∧ya (tokens s) []=preB s s.size:=by
 obtain⟨t1,t2,t3,t4⟩:=Aw s hs s.size 0 (by omega) (by omega)
 exact⟨by unfold tokens;omega,t2,t3,t4⟩
theorem K3 {g:H} {w id n b:Nat} {P:List Nat} {x:Nat} (hb:b≤1) (hw:g.get w=some [.aF id 0 (n/8+1) 1,.int .i64 n]) (hi:g.get id=some (yI P)) (hl:P.length=n/8+1) (hx:P[n/8]?=some x) (hx8:x<256) (hne:id≠w) (hf:g.floor≤w) (hf2:g.floor≤id) (hn:n<1000000):
 ∃e',aL (aR AP.A) bp (JT 1 AP.f347.body) [(0,.aE w 0),(1,.int .i64 b)] g=some (.normal,e',(g.set id (yI (P.set (n/8) (x|||b* 2^(n%8))))).set w [.aF id 0 (n/8+1) 1,.int .i64 ((n:Int)+1)]):=by
 have c8:b* 2^(n%8)<256:=by
  have h1:2^(n%8)≤2^7:=VO (by omega) (by omega)
  have h2:b* 2^(n%8)≤1* 2^7:=Wn hb h1
  omega
 have s1:=JN hb (show n%8<8 by omega)
 have o1:=G2 hx8 c8
 have w1:=To (n:=b* 2^(n%8)) c8
 have rm:=KM (a:=n) (n:=8) (by omega)
 have rm':bj .rem (.int .i64 (n:Int)) (.int .i64 8)=some (.int .i64 ((n%8:Nat):Int)):=rm
 have w2:IntKind.wrap .i64 (((n/8+1:Nat):Int)-1)=((n/8:Nat):Int):=by rw[wi (by omega)];omega
 have bl:=K5 P
 have gx:=MV hx
 have st:=QU P (n/8) (x|||b* 2^(n%8))
 have sgn:((n/8:Nat):Int).toNat=n/8:=by omega
 have gw2:(g.set id (yI (P.set (n/8) (x|||b* 2^(n%8))))).get w=some [.aF id 0 (n/8+1) 1,.int .i64 n]:=by rw[vX (fun q=>hne q.symm),hw]
 generalize yI P=BP at *
 generalize b* 2^(n%8)=Y at *
 generalize (x|||Y)=Z at *
 generalize yI (P.set (n/8) Z)=BZ at *
 refine⟨?_, ?_⟩
 rotate_left
 simp (disch:=first|omega|(simp only[wY,Vy,VC,vF,Nat.reduceAdd];first|done|omega|fail)|(simp (disch:=first|omega|(simp only[wY,Vy,VC,vF,Nat.reduceAdd];first|done|omega|fail)|fail)only[wY,zX,VG,Vy,VC,vF,Nat.reduceAdd];done)|fail)only[go_sem,wc,zW,AP.f347,hw,hi,s1,o1,w1,rm',w2,bl,hl,gx,st,sgn,gw2]
 rfl
theorem NJ {h : H} {w b : Nat} {bs : List Nat} {ov : AV} (wr : Wr h w bs ov) (hb : b ≤ 1) (hn : bs.length < 1000000) :
 ∃h' ov',aR AP.A 347 [.aE w 0,.int .i64 b] h=some (.bL [],h')∧Wr h' w (bs++[b]) ov'∧Dz h w ov h' ov':=by
 obtain⟨gw,ow,fl,GO,ne,ES⟩:=wr
 obtain⟨n,en⟩:∃n,n=bs.length:=⟨_,rfl⟩
 rw[←en]at gw hn
 have pl:=yF bs
 rw[←en]at pl
 have pa:=CX bs b
 rw[←en]at pa
 obtain⟨P,eP⟩:∃P,P=wJ bs:=⟨_,rfl⟩
 rw[←eP]at ow ES pa pl
 have wlt:=h.lt _ _ gw
 obtain ⟨g, ov', id, P', x, s1, hw, hi, hl, hx, hid, hne, hf, hf2, hflx, hP, hk, hx8, hids, hbt⟩ : ∃ g ov' id P' x, aL (aR AP.A) bp (at_ 0 AP.f347.body) [(0, .aE w 0), (1, .int .i64 b)] h = some (.normal, [(0, .aE w 0), (1, .int .i64 b)], g) ∧ g.get w = some [.aF id 0 (n / 8 + 1) 1, .int .i64 n] ∧ g.get id = some (yI P') ∧ P'.length = n / 8 + 1 ∧ P'[n / 8]? = some x ∧ ov' = AV.aF id 0 (n / 8 + 1) 1 ∧ id ≠ w ∧ g.floor = h.floor ∧ h.floor ≤ id ∧ h.next ≤ g.next ∧ w9 P n b = P'.set (n / 8) (x ||| b * 2 ^ (n % 8)) ∧ (∀ i, i < h.next → i ≠ w → ov.id? ≠ some i → g.get i = h.get i) ∧ x < 256 ∧ (ov.id? = some id ∨ h.next ≤ id) ∧ Iu P' := by
  have rm:bj .rem (.int .i64 (n:Int)) (.int .i64 8)=some (.int .i64 ((n%8:Nat):Int)):=KM (a:=n) (n:=8) (by omega)
  by_cases c:n%8=0
  · have cz:((n%8:Nat):Int)=0:=by omega
    obtain⟨v',h',p1,p2,p3,p4,p5,p6⟩:=ow.push GO (z:=1) (m:=1) (by omega) (by omega) [.int .u8 0] rfl rfl (xK (by omega))
    have gw1:h'.get w=some [ov,.int .i64 n]:=by rw[p5 w ne wlt,gw]
    have e1:=p2.1
    rcases p2.2 with ⟨_,q⟩|⟨id,q1,q2,q3,q4⟩
    · omega
    · have hk:P.length+1=n/8+1:=by omega
      rw[hk]at q1
      have qid:id=h.next+1:=by rw[q1]at p6;exact vm p6
      refine⟨h'.set w [v',.int .i64 n],v',id,P++[0],0, ?_, ?_, ?_, ?_, ?_,q1,by omega,by simp [p3],by omega, ?_, ?_, ?_,by omega,.inr (by omega), ?_⟩
      · rw[q1]
        rw[q1]at p1
        have fl':h'.floor≤w:=by omega
        simp (disch:=omega)only[go_sem,wc,AP.f347,xL,gw,gw1,rm,cz,p1,fl',wu,vX]
      · rw[wu rfl,gw1,q1];rfl
      · rw[vX (by omega),q2,AQ];rfl
      · simp;omega
      · rw[VL (by omega),show n/8-P.length=0 by omega];rfl
      · simp;omega
      · unfold w9;rw[if_pos c];dsimp only;rw[Vx,VL (by omega),show n/8-P.length=0 by omega];rfl
      · intro i hi hiw hio
        rw[vX hiw,p5 i hio hi]
      · intro y hy
        rcases VY.1 hy with q|q
        · exact ES y q
        · simp at q;omega
  · have cz:¬((n%8:Nat):Int)=0:=by omega
    rcases ow.2 with ⟨_,q⟩|⟨id,q1,q2,q3,q4⟩
    · omega
    · have hk:P.length=n/8+1:=by omega
      rw[hk]at q1
      obtain⟨x,hx⟩:∃x,P[n/8]?=some x:=⟨_,Vz (by omega)⟩
      have hneq:id≠w:=fun q=>ne (by rw[q1,q];rfl)
      refine⟨h,ov,id,P,x, ?_,by rw[gw,q1],q2,hk,hx,q1,hneq,rfl,q3,vB _, ?_,fun _ _ _ _=>rfl,ES x (vE hx),.inl (by rw[q1];rfl),ES⟩
      · simp (disch:=first|omega|(simp only[wY,Vy,VC,vF,Nat.reduceAdd];first|done|omega|fail)|(simp (disch:=first|omega|(simp only[wY,Vy,VC,vF,Nat.reduceAdd];first|done|omega|fail)|fail)only[wY,zX,VG,Vy,VC,vF,Nat.reduceAdd];done)|fail)only[go_sem,wc,zW,AP.f347,gw,rm,cz]
      · unfold w9;rw[if_neg c];dsimp only;rw[Vx,hx];rfl
 obtain⟨e',s2⟩:=K3 hb hw hi hl hx hx8 hne (by omega) (by omega) hn
 have cs:aR AP.A 347 [.aE w 0,.int .i64 b] h=some (.bL [],(g.set id (yI (P'.set (n/8) (x|||b* 2^(n%8))))).set w [.aF id 0 (n/8+1) 1,.int .i64 ((n:Int)+1)]):=by
  refine xb (fn:=AP.f347) (e:=e') (vs:=[]) rfl rfl rfl ?_ rfl
  have hb:AP.f347.body=.seq (at_ 0 AP.f347.body) (JT 1 AP.f347.body):=rfl
  rw[hb,sI]
  have s1':aL (aR AP.A) bp (at_ 0 AP.f347.body) (params 0 [.aE w 0,.int .i64 b]) h=some (.normal,[(0,.aE w 0),(1,.int .i64 b)],g):=s1
  rw[s1',tB,s2]
 rw[←hP]at cs
 have ol:(w9 P n b).length=n/8+1:=by rw[hP,VT,hl]
 refine⟨_,ov',cs,⟨?_, ?_, ?_, ?_, ?_, ?_⟩, ?_, ?_, ?_, ?_⟩
 · rw[wu rfl,vX hne.symm,hw,hid,vV,←en];rfl
 · rw[pa,hid]
   exact⟨by simp [yI,ol],.inr ⟨id,by rw[ol],by rw[vX hne,wu rfl,hi];rfl,by simpa [hf]using hf2,by omega⟩⟩
 · simpa [hf]using fl
 · simp;omega
 · rw[hid];exact fun q=>hne (vm q)
 · rw[pa];exact Bb hb ES
 · simp [hf]
 · simpa using hflx
 · intro i hi1 hi2 hi3
   have:i≠id:=by
    rcases hids with q|q
    · intro q2;exact hi3 (by rw[q,q2])
    · omega
   rw[vX hi2,vX this,hk i hi1 hi2 hi3]
 · intro j hj
   rw[hid]at hj
   obtain rfl:=vm hj
   exact hids
theorem Lr {h:H} {w:Nat} {ov:AV} {v n up N:Nat} (gw:h.get w=some [ov,.int .i64 N]) (hn:n≤up) (hu:up≤16) (hv:v<2^n) (hb:N+n≤65536):aR AP.A 346 [.aE w 0,.int .i64 v,.int .i64 n,.int .i64 up] h=some (.bool true,h):=by
 have hp:2^n≤2^16:=VO (by omega) (by omega)
 have s1:pP .shl .i64 1 (n:Int)=some (.int .i64 ((2^n:Nat):Int)):=by
  have:=yL (a:=1) (s:=n) (by omega) (by omega)
  rwa [Nat.one_mul]at this
 refine um (fn:=AP.f346) (e:=[(8,.bool true)]) (vs:=[.bool true]) rfl rfl rfl ?_ rfl
 have c1:(0:Int)≤(n:Int):=by omega
 have c2:(n:Int)≤(up:Int):=by omega
 have c3:(0:Int)≤(v:Int):=by omega
 have c4:(v:Int)<((2^n:Nat):Int):=by omega
 have c5:(N:Int)+(n:Int)≤65536:=by omega
 generalize 2^n=M at *
 simp (disch:=omega)only[go_sem,wc,AP.f346,s1,gw,c1,c2,c3,c4,c5]
theorem FJ (w v n:Nat) (hv:v<65536) (hn:n≤16):∀(m i:Nat) (h:H) (bs:List Nat) (ov:AV),i+m=n→Wr h w bs ov→bs.length+m<1000000→
 ∃e' h' ov',Lp AP.A [0,1,17,18] AP.f335L0 [(0,.aE w 0),(1,.int .i64 v),(17,.int .i64 n),(18,.int .i64 i)] h=some (.exit 1,e',h')∧Wr h' w (bs++B5 v i m) ov'∧Dz h w ov h' ov'
 | 0, i, h, bs, ov, hi, wr, hb => by
   obtain rfl:i=n:=by omega
   refine⟨[(0,.aE w 0),(1,.int .i64 v),(17,.int .i64 i),(18,.int .i64 i),(19,.bool false)],h,ov,tW ?_,by simpa [B5]using wr,Dz.refl h w ov⟩
   simp (disch:=omega)only[go_sem,wc,AP.f335L0]
 | m + 1, i, h, bs, ov, hi, wr, hb => by
   have q:=Nat.div_le_self v (2^i)
   obtain⟨h1,o1,k1,wr1,f1⟩:=NJ wr (b:=v/2^i%2) (by omega) (by omega)
   obtain⟨e',h',ov',r1,r2,r3⟩:=FJ w v n hv hn m (i+1) h1 _ o1 (by omega) wr1 (by simp;omega)
   have n1:((i+1:Nat):Int)=(i:Int)+1:=by omega
   have s1:=CG (a:=v) (s:=i) (by omega)
   have a1:=Cf (n:=v/2^i) (by omega)
   rw[VH]at r2
   refine⟨e',h',ov',tX ?_ r1,r2,f1.trans r3⟩
   rw[n1]
   simp (disch:=omega)only[go_sem,wc,AP.f335L0,s1,a1,k1]
theorem zk {h:H} {w:Nat} {bs:List Nat} {ov:AV} (wr:Wr h w bs ov) (v n:Nat) (hn:n≤16) (hv:v<2^n) (hb:bs.length+n≤65536):
 ∃h' ov',aR AP.A 335 [.aE w 0,.int .i64 v,.int .i64 n] h=some (.int .i64 0,h')∧Wr h' w (bs++wA v n) ov'∧Dz h w ov h' ov':=by
 have hp:2^n≤2^16:=VO (by omega) hn
 obtain⟨e',h',ov',r1,r2,r3⟩:=FJ w v n (by omega) hn n 0 h bs ov (by omega) wr (by omega)
 have r1':Lp AP.A [0,1,17,18] AP.f335L0 [(0,.aE w 0),(1,.int .i64 v),(17,.int .i64 n),(18,.int .i64 0)] h=some (.exit 1,e',h'):=r1
 clear r1
 have k:=Lr (up:=16) wr.get hn (by omega) hv hb
 refine⟨h',ov',um (fn:=AP.f335) (e:=[(6,.int .i64 0)]) (vs:=[.int .i64 0]) rfl rfl rfl ?_ rfl,r2,r3⟩
 have k':aR AP.A 346 [.aE w 0,.int .i64 v,.int .i64 n,.int .i64 16] h=some (.bool true,h):=k
 simp (disch:=omega)only[go_sem,wc,AP.f335,sX,r1',k']
theorem Et (w v:Nat) (A:List AV) (hA:A[1]?=some (.int .i64 v)) (hA2:A.length=2) (c:Nat) (hv:v<65536):∀(m:Nat) (h:H) (bs:List Nat) (ov:AV),m≤15→Wr h w bs ov→bs.length+m<1000000→h.get c=some A→c≠w→ov.id?≠some c→
 ∃e' h' ov',Lp AP.A [0,3,5] AP.f352L0 [(0,.aE w 0),(3,.aE c 0),(5,.int .i64 ((m:Int)-1))] h=some (.exit 1,e',h')∧Wr h' w (bs++yC v m) ov'∧Dz h w ov h' ov'
 | 0, h, bs, ov, hm, wr, hb, hc, hcw, hco => by
   refine⟨[(0,.aE w 0),(3,.aE c 0),(5,.int .i64 (-1)),(26,.bool false)],h,ov,tW ?_,by simpa [yC]using wr,Dz.refl h w ov⟩
   simp (disch:=omega)only[go_sem,wc,AP.f352L0]
 | m + 1, h, bs, ov, hm, wr, hb, hc, hcw, hco => by
   have q:=Nat.div_le_self v (2^m)
   obtain⟨h1,o1,k1,wr1,f1⟩:=NJ wr (b:=v/2^m%2) (by omega) (by omega)
   have hcl:=h.lt _ _ hc
   obtain⟨e',h',ov',r1,r2,r3⟩:=Et w v A hA hA2 c hv m h1 _ o1 (by omega) wr1 (by simp;omega) (by rw[f1.xc c hcl hcw hco,hc]) hcw (fun q=>by
    rcases f1.ids c q with q|q
    · exact hco q
    · omega)
   have n1:((m+1:Nat):Int)-1=(m:Int):=by omega
   have s1:=CG (a:=v) (s:=m) (by omega)
   have a1:=Cf (n:=v/2^m) (by omega)
   rw[VH]at r2
   refine⟨e',h',ov',tX ?_ r1,r2,f1.trans r3⟩
   rw[n1]
   simp (disch:=omega)only[go_sem,wc,AP.f352L0,s1,a1,k1,hc,hA,hA2]
theorem JG {h:H} {w:Nat} {bs:List Nat} {ov:AV} (wr:Wr h w bs ov) (v n:Nat) (hn0:1≤n) (hn:n≤15) (hv:v<2^n) (hb:bs.length+n≤65536):
 ∃h' ov',aR AP.A 352 [.aE w 0,.agg [.int .i64 n,.int .i64 v]] h=some (.int .i64 0,h')∧Wr h' w (bs++yC v n) ov'∧Dz h w ov h' ov':=by
 have hp:2^n≤2^15:=VO (by omega) hn
 obtain⟨g,eg⟩:∃g,g=h.alloc [.int .i64 n,.int .i64 v]:=⟨_,rfl⟩
 have hw:=h.lt _ _ wr.get
 have frA:∀i,i<h.next→g.get i=h.get i:=fun i hi=>by rw[eg,v8 (by omega)]
 have wr1:Wr g w bs ov:=⟨by rw[frA w hw,wr.get],wr.own.mono (by rw[eg];simp) (fun i q=>frA i (wr.own.lt q).2),by rw[eg];simpa using wr.fl,by rw[eg];have:=wr.GO;simp;omega,wr.ne,wr.ES⟩
 have gc:g.get h.next=some [.int .i64 n,.int .i64 v]:=by rw[eg,wh rfl]
 obtain⟨e',h',ov',r1,r2,r3⟩:=Et w v _ rfl rfl h.next (by omega) n g bs ov hn wr1 (by omega) gc (by omega) (fun q=>by have:=(wr.own.lt q).2;omega)
 have k:aR AP.A 346 [.aE w 0,.int .i64 v,.int .i64 n,.int .i64 15] g=some (.bool true,g):=Lr (up:=15) wr1.get hn (by omega) hv hb
 refine⟨h',ov',um (fn:=AP.f352) (e:=[(4,.int .i64 0)]) (vs:=[.int .i64 0]) rfl rfl rfl ?_ rfl,r2,⟨by rw[r3.floor,eg];simp,by have:=r3.next;rw[eg]at this;simp at this;omega,fun i h1 h2 h3=>by rw[r3.xc i (by rw[eg];simp;omega) h2 h3,frA i h1],fun j hj=>by
  rcases r3.ids j hj with q|q
  · exact .inl q
  · rw[eg]at q;simp at q;exact .inr (by omega)⟩⟩
 have c1:¬(n:Int)<1:=by omega
 simp (disch:=omega)only[go_sem,wc,AP.f352,sX,←eg,r1,c1,gc,k]
theorem JI {h:H} {w:Nat} {bs:List Nat} {ov:AV} (wr:Wr h w bs ov):aR AP.A 336 [.aE w 0] h=some (.str (bytesOf (wJ bs)),h):=by
 have gw:=wr.get
 have b:=Cg wr.own
 refine um (fn:=AP.f336) (e:=[(2,.str (bytesOf (wJ bs)))]) (vs:=[.str (bytesOf (wJ bs))]) rfl rfl rfl ?_ rfl
 simp (disch:=omega)only[go_sem,wc,AP.f336,gw,b]
theorem HW (bs : List Nat) : ∀ m : Nat, (bs.length + m) % 8 = 0 → m < 8 → wJ (bs ++ List.replicate m 0) = wJ bs := by
 have step:∀(k:Nat) (cs:List Nat),k+cs.length%8≤8→(0<k→cs.length%8≠0)→wJ (cs++List.replicate k 0)=wJ cs:=by
  intro k
  induction k with
  |zero=>intro cs _ _;simp
  | succ k ih =>
    intro cs h1 h2
    have hne:=h2 (by omega)
    have e:cs++List.replicate (k+1) 0=(cs++[0])++List.replicate k 0:=by simp [List.replicate_succ]
    have l1:(cs++[0]).length=cs.length+1:=by simp
    have z:wJ (cs++[0])=wJ cs:=by
     rw[CX]
     unfold w9
     rw[if_neg hne]
     dsimp only
     rw[Nat.zero_mul,Nat.or_zero]
     have hl:=yF cs
     have hlt:cs.length/8<(wJ cs).length:=by omega
     rw[Vx,Vz hlt]
     exact List.set_getElem_self hlt
    rw[e]
    by_cases c:k=0
    · subst c;simpa using z
    · rw[ih (cs++[0]) (by rw[l1];omega) (fun _=>by rw[l1];omega),z]
 intro m hm h8
 refine step m bs (by omega) (fun h=>by omega)
theorem Ma {h:H} {w:Nat} {bs:List Nat} {ov:AV} (wr:Wr h w bs ov) (m:Nat) (hm:(bs.length+m)%8=0) (h8:m<8) (hb:bs.length+m<1000):
 ∃h',aR AP.A 334 [.aE w 0] h=some (.int .i64 0,h')∧Wr h' w (bs++List.replicate m 0) ov∧Dz h w ov h' ov:=by
 have gw:=wr.get
 have pz:=HW bs m hm h8
 have pl:=yF bs
 have ln:=wr.own.rd.len
 have e8:(8:Int)* ((wJ bs).length:Nat)=((bs.length+m:Nat):Int):=by omega
 have fl:=wr.fl
 refine⟨h.set w [ov,.int .i64 (bs.length+m:Nat)],um (fn:=AP.f334) (e:=[(2,.int .i64 0)]) (vs:=[.int .i64 0]) rfl rfl rfl ?_ rfl,⟨by rw[wu rfl,gw];simp, ?_,by simpa using fl,by simpa using wr.GO,wr.ne,by rw[pz];exact wr.ES⟩,⟨by simp,by simp,fun i _ h2 _=>vX h2,fun j hj=>.inl hj⟩⟩
 · have mb:((bs.length+m:Nat):Int)<1000:=by omega
   generalize ((bs.length+m:Nat):Int)=M at *
   have M0:0≤M:=by omega
   clear pz
   simp (disch:=omega)only[go_sem,wc,AP.f334,gw,ln,e8,fl]
 · rw[pz];exact wr.own.mono (by simp) fun j hj=>vX (fun q=>wr.ne (by rw[hj,q]))
theorem Jg {h:H} (hf:h.floor=h.next) (k:Nat) (hk:k<4):∃h' ov',aR AP.A 333 [.int .i64 k] h=some (.aE h.next 0,h')∧WX h h' h.next (wA 1 1++wA k 2) ov'∧h'.floor=h.floor:=by
 have x0:=GM (h:=h) (by omega)
 obtain⟨h1,o1,k1,w1,f1⟩:=zk x0.wr 1 1 (by omega) (by omega) (by simp)
 have x1:=x0.step w1 f1
 obtain⟨h2,o2,k2,w2,f2⟩:=zk x1.wr k 2 (by omega) (by omega) (by simp [wA,wE])
 have x2:=x1.step w2 f2
 have kn:aR AP.A 345 [] h=some (.aE h.next 0,h.alloc [.aP,.int .i64 0]):=by
  refine um (fn:=AP.f345) (e:=[(0,.aE h.next 0)]) (vs:=[.aE h.next 0]) rfl rfl rfl ?_ rfl
  simp (disch:=omega)only[go_sem,wc,AP.f345]
 refine⟨h2,o2,um (fn:=AP.f333) (e:=[(2,.aE h.next 0)]) (vs:=[.aE h.next 0]) rfl rfl rfl ?_ rfl, ?_,by rw[f2.floor,f1.floor];simp⟩
 · clear x0 x1 x2
   have k1':aR AP.A 335 [.aE h.next 0,.int .i64 1,.int .i64 1] (h.alloc [.aP,.int .i64 0])=some (.int .i64 0,h1):=k1
   have k2':aR AP.A 335 [.aE h.next 0,.int .i64 k,.int .i64 2] h1=some (.int .i64 0,h2):=k2
   simp (disch:=omega)only[go_sem,wc,AP.f333,kn,k1',k2']
 · simpa using x2
theorem Pa {F:Nat→Option (Nat×Nat)} {k to:Nat} (h:wD (F to)≤k):yZ F k to=to:=by
 cases to with
 |zero=>rfl
 |succ t=>rw[yZ,if_pos h]
theorem Fp {F : Nat → Option (Nat × Nat)} {fk : Nat} (hF : ∀ (g : H) (s : Nat), s < 1000000 → aR AP.A fk [.int .i64 s] g = some (Bm (F s), g)) (k to : Nat) (hk : k < 1000000) (hto : to < 1000) (hl : wD (F to) ≤ k) (g : H) (id : Nat) (hf : g.floor ≤ id) (hg : g.get id = some [.int .i64 0, .int .i64 0, .int .i64 0]) : ∀ n : Nat, n < 1000 → (∀ s, to ≤ s → s ≤ to + n → ∃ a b, F s = some (a, b) ∧ a < 1000000) →
 (yZ F k (to+n)=to∧Lp AP.A [0,2,3,8,9] AP.f361L0 [(0,.int .i64 k),(2,.int .i64 to),(3,.fn fk [] []),(8,.aE id 0),(9,.int .i64 (to+n:Nat))] g=some (.exit 0,[(0,.int .i64 k),(2,.int .i64 to),(3,.fn fk [] []),(8,.aE id 0),(9,.int .i64 to),(16,.bool false)],g))∨
 (yZ F k (to+n)≠to∧Lp AP.A [0,2,3,8,9] AP.f361L0 [(0,.int .i64 k),(2,.int .i64 to),(3,.fn fk [] []),(8,.aE id 0),(9,.int .i64 (to+n:Nat))] g=some (.ret,[(8,.aE id 0)],g.set id [.int .i64 (yZ F k (to+n):Nat),.int .i64 (xu (F (yZ F k (to+n))):Nat),.int .i64 ((k-wD (F (yZ F k (to+n))):Nat):Int)]))
 | 0, _, _ => by
   refine .inl ⟨Pa hl,tW ?_⟩
   simp (disch:=omega)only[go_sem,wc,AP.f361L0]
 | n + 1, hn, hs => by
   obtain⟨a,b,hab,ha⟩:=hs (to+(n+1)) (by omega) (by omega)
   have kk:=fun g=>hF g (to+(n+1)) (by omega)
   rw[hab]at kk
   simp only[I,Bm]at kk
   have la:wD (F (to+(n+1)))=a:=by rw[hab];rfl
   have lb:xu (F (to+(n+1)))=b:=by rw[hab];rfl
   have c0:(to:Int)<((to+(n+1):Nat):Int):=by omega
   have ed:yZ F k (to+(n+1))=if a≤k then to+(n+1)else yZ F k (to+n):=by rw[←vz,yZ,←la];rfl
   by_cases c1:a≤k
   · rw[if_pos c1]at ed
     rw[ed,la,lb]
     refine .inr ⟨by omega,uz ?_⟩
     have n1:((k-a:Nat):Int)=(k:Int)-(a:Int):=by omega
     have c2:(a:Int)≤(k:Int):=by omega
     have sb:((to+(n+1):Nat):Int)<1000000:=by omega
     rw[n1]
     generalize ((to+(n+1):Nat):Int)=s at *
     clear hs hF
     simp (disch:=first|omega|(simp only[wY,Vy,VC,vF,Nat.reduceAdd];first|done|omega|fail)|(simp (disch:=first|omega|(simp only[wY,Vy,VC,vF,Nat.reduceAdd];first|done|omega|fail)|fail)only[wY,zX,VG,Vy,VC,vF,Nat.reduceAdd];done)|fail)only[go_sem,wc,zW,AP.f361L0,c0,kk,c2,hg]
   · rw[if_neg c1]at ed
     rw[ed]
     have n1:((to+(n+1):Nat):Int)-1=((to+n:Nat):Int):=by omega
     have c2:¬(a:Int)≤(k:Int):=by omega
     have st:aL (aR AP.A) bp AP.f361L0 (ay [(0,.int .i64 k),(2,.int .i64 to),(3,.fn fk [] []),(8,.aE id 0),(9,.int .i64 (to+(n+1):Nat))] [0,2,3,8,9]) g=some (.normal,[(0,.int .i64 k),(2,.int .i64 to),(3,.fn fk [] []),(8,.aE id 0),(9,.int .i64 (to+n:Nat))],g):=by
      rw[←n1]
      have sb:((to+(n+1):Nat):Int)<1000000:=by omega
      have sb0:0≤((to+(n+1):Nat):Int):=by omega
      clear n1
      generalize ((to+(n+1):Nat):Int)=s at *
      clear hs hF
      simp (disch:=first|omega|(simp only[wY,Vy,VC,vF,Nat.reduceAdd];first|done|omega|fail)|(simp (disch:=first|omega|(simp only[wY,Vy,VC,vF,Nat.reduceAdd];first|done|omega|fail)|fail)only[wY,zX,VG,Vy,VC,vF,Nat.reduceAdd];done)|fail)only[go_sem,wc,zW,AP.f361L0,c0,kk,c2,hg]
     rcases Fp hF k to hk hto hl g id hf hg n (by omega) (fun s h1 h2=>hs s h1 (by omega))with ⟨e,L⟩|⟨e,L⟩
     · exact .inl ⟨e,tX st L⟩
     · exact .inr ⟨e,tX st L⟩
theorem LK {F:Nat→Option (Nat×Nat)} {fk:Nat} (hF:∀(g:H) (s:Nat),s<1000000→aR AP.A fk [.int .i64 s] g=some (Bm (F s),g)) (k to n:Nat) (hk:k<1000000) (hto:to<1000) (hl:wD (F to)≤k) (hn:n<1000) (hs:∀s,to≤s→s≤to+n→∃a b,F s=some (a,b)∧a<1000000) (hz:yZ F k (to+n)=to→xu (F to)=0∧k=wD (F to)) (h:H):
 aR AP.A 361 [.int .i64 k,.int .i64 (to+n:Nat),.int .i64 to,.fn fk [] []] h=some (.agg [.int .i64 (yZ F k (to+n):Nat),.int .i64 (xu (F (yZ F k (to+n))):Nat),.int .i64 ((k-wD (F (yZ F k (to+n))):Nat):Int)],h):=by
 rcases Fp hF k to hk hto hl (h.dQ.alloc [.int .i64 0,.int .i64 0,.int .i64 0]) h.next (by simp) (by rw[wh (by simp)]) n hn hs with ⟨e,L⟩|⟨e,L⟩
 · obtain⟨z1,z2⟩:=hz e
   rw[e,z1,←z2,Wo]
   refine uL (fn:=AP.f361) (h2:=(h.dQ.alloc [.int .i64 0,.int .i64 0,.int .i64 0]).set h.next [.int .i64 to,.int .i64 0,.int .i64 0]) (e:=[(8,.aE h.next 0)]) (vs:=[.agg [.int .i64 to,.int .i64 0,.int .i64 0]]) rfl rfl rfl ?_ ?_ ?_
   · clear hs hF
     simp (disch:=first|omega|(simp only[wY,Vy,VC,vF,Nat.reduceAdd];first|done|omega|fail)|(simp (disch:=first|omega|(simp only[wY,Vy,VC,vF,Nat.reduceAdd];first|done|omega|fail)|fail)only[wY,zX,VG,Vy,VC,vF,Nat.reduceAdd];done)|fail)only[go_sem,wc,zW,AP.f361,sX,L]
   · simp (disch:=first|omega|(simp only[wY,Vy,VC,vF,Nat.reduceAdd];first|done|omega|fail)|(simp (disch:=first|omega|(simp only[wY,Vy,VC,vF,Nat.reduceAdd];first|done|omega|fail)|fail)only[wY,zX,VG,Vy,VC,vF,Nat.reduceAdd];done)|fail)only[go_sem,wc,zW,AP.f361,cu,nM];rfl
   · rfl
 · generalize yZ F k (to+n)=S at *
   generalize xu (F S)=B at *
   generalize k-wD (F S)=V at *
   refine uL (fn:=AP.f361) (h2:=(h.dQ.alloc [.int .i64 0,.int .i64 0,.int .i64 0]).set h.next [.int .i64 S,.int .i64 B,.int .i64 V]) (e:=[(8,.aE h.next 0)]) (vs:=[.agg [.int .i64 S,.int .i64 B,.int .i64 V]]) rfl rfl rfl ?_ ?_ ?_
   · clear hs hF
     simp (disch:=first|omega|(simp only[wY,Vy,VC,vF,Nat.reduceAdd];first|done|omega|fail)|(simp (disch:=first|omega|(simp only[wY,Vy,VC,vF,Nat.reduceAdd];first|done|omega|fail)|fail)only[wY,zX,VG,Vy,VC,vF,Nat.reduceAdd];done)|fail)only[go_sem,wc,zW,AP.f361,sX,L]
   · simp (disch:=first|omega|(simp only[wY,Vy,VC,vF,Nat.reduceAdd];first|done|omega|fail)|(simp (disch:=first|omega|(simp only[wY,Vy,VC,vF,Nat.reduceAdd];first|done|omega|fail)|fail)only[wY,zX,VG,Vy,VC,vF,Nat.reduceAdd];done)|fail)only[go_sem,wc,zW,AP.f361,cu,nM];rfl
   · rfl
theorem Qv (h:H) (k:Nat) (h1:3≤k) (h2:k≤258):aR AP.A 355 [.int .i64 k] h=some (.bL [.agg [.int .i64 (xB k:Nat),.int .i64 (yP k:Nat),.int .i64 (y9 k:Nat)],.int .i64 0],h):=by
 by_cases c:k=258
 · subst c
   have e1:xB 258=285:=by decide
   have e2:yP 258=0:=by decide
   have e3:y9 258=0:=by decide
   rw[e1,e2,e3]
   refine uL (fn:=AP.f355) (h2:=(h.dQ.alloc [.int .i64 0,.int .i64 0,.int .i64 0]).set h.next [.int .i64 285,.int .i64 0,.int .i64 0]) (e:=[(2,.aE h.next 0),(3,.int .i64 0)]) (vs:=[.agg [.int .i64 285,.int .i64 0,.int .i64 0],.int .i64 0]) rfl rfl rfl ?_ ?_ ?_
   · have a1:¬((258:Nat):Int)<3:=by omega
     have a2:¬(258:Int)<((258:Nat):Int):=by omega
     have a3:(((258:Nat):Int)==258)=true:=by decide
     generalize ((258:Nat):Int)=K at *
     simp (disch:=first|omega|(simp only[wY,Vy,VC,vF,Nat.reduceAdd];first|done|omega|fail)|(simp (disch:=first|omega|(simp only[wY,Vy,VC,vF,Nat.reduceAdd];first|done|omega|fail)|fail)only[wY,zX,VG,Vy,VC,vF,Nat.reduceAdd];done)|fail)only[go_sem,wc,zW,AP.f355,a1,a2,a3]
   · simp (disch:=first|omega|(simp only[wY,Vy,VC,vF,Nat.reduceAdd];first|done|omega|fail)|(simp (disch:=first|omega|(simp only[wY,Vy,VC,vF,Nat.reduceAdd];first|done|omega|fail)|fail)only[wY,zX,VG,Vy,VC,vF,Nat.reduceAdd];done)|fail)only[go_sem,wc,zW,AP.f355,cu,nM];rfl
   · rfl
 · have e:yZ lenOf k 285=yZ lenOf k 284:=by
    rw[yZ,if_neg]
    have:wD (lenOf (284+1))=258:=rfl
    omega
   have sp:=yV h1 h2
   have hz:yZ lenOf k (257+27)=257→xu (lenOf 257)=0∧k=wD (lenOf 257):=fun q=>by
    have q':xB k=257:=e.trans q
    rw[q']at sp
    have b1:xu (lenOf 257)=0:=rfl
    have l1:wD (lenOf 257)=3:=rfl
    rw[l1,b1]at sp
    exact⟨rfl,by rw[l1];omega⟩
   have r:=LK (F:=lenOf) (fk:=74) (fun g s hs=>JA g s hs) k 257 27 (by omega) (by omega) (show wD (lenOf 257)≤k from h1) (by omega) (fun s q1 q2=>by
    obtain⟨a,b,hab⟩:=AE q1 (by omega)
    have:=Ct hab
    exact⟨a,b,hab,by omega⟩) hz (h.dQ.alloc [.int .i64 0,.int .i64 0,.int .i64 0])
   have el:yZ lenOf k (257+27)=xB k:=e.symm
   rw[el]at r
   have r':aR AP.A 361 [.int .i64 k,.int .i64 284,.int .i64 257,.fn 74 [] []] (h.dQ.alloc [.int .i64 0,.int .i64 0,.int .i64 0])=some (.agg [.int .i64 (xB k:Nat),.int .i64 (yP k:Nat),.int .i64 (y9 k:Nat)],h.dQ.alloc [.int .i64 0,.int .i64 0,.int .i64 0]):=r
   clear r
   generalize xB k=S at *
   generalize yP k=B at *
   generalize y9 k=V at *
   refine uL (fn:=AP.f355) (h2:=(h.dQ.alloc [.int .i64 0,.int .i64 0,.int .i64 0]).set h.next [.int .i64 S,.int .i64 B,.int .i64 V]) (e:=[(2,.aE h.next 0),(3,.int .i64 0)]) (vs:=[.agg [.int .i64 S,.int .i64 B,.int .i64 V],.int .i64 0]) rfl rfl rfl ?_ ?_ ?_
   · have a1:¬(k:Int)<3:=by omega
     have a2:¬(258:Int)<(k:Int):=by omega
     have a3:((k:Int)==258)=false:=by simp;omega
     clear sp hz
     simp (disch:=first|omega|(simp only[wY,Vy,VC,vF,Nat.reduceAdd];first|done|omega|fail)|(simp (disch:=first|omega|(simp only[wY,Vy,VC,vF,Nat.reduceAdd];first|done|omega|fail)|fail)only[wY,zX,VG,Vy,VC,vF,Nat.reduceAdd];done)|fail)only[go_sem,wc,zW,AP.f355,a1,a2,a3,r']
   · simp (disch:=first|omega|(simp only[wY,Vy,VC,vF,Nat.reduceAdd];first|done|omega|fail)|(simp (disch:=first|omega|(simp only[wY,Vy,VC,vF,Nat.reduceAdd];first|done|omega|fail)|fail)only[wY,zX,VG,Vy,VC,vF,Nat.reduceAdd];done)|fail)only[go_sem,wc,zW,AP.f355,cu,nM];rfl
   · rfl
theorem Ns (h:H) (k:Nat) (h1:1≤k) (h2:k≤32768):aR AP.A 356 [.int .i64 k] h=some (.bL [.agg [.int .i64 (xG k:Nat),.int .i64 (yT k:Nat),.int .i64 (zj k:Nat)],.int .i64 0],h):=by
 have sp:=yU h1 h2
 have hz:yZ wI k (0+29)=0→xu (wI 0)=0∧k=wD (wI 0):=fun q=>by
  have q':xG k=0:=q
  rw[q']at sp
  have b1:xu (wI 0)=0:=rfl
  have l1:wD (wI 0)=1:=rfl
  rw[l1,b1]at sp
  exact⟨rfl,by rw[l1];omega⟩
 have r:=LK (F:=wI) (fk:=75) (fun g s hs=>Hi g s hs) k 0 29 (by omega) (by omega) (show wD (wI 0)≤k from h1) (by omega) (fun s q1 q2=>by
  obtain⟨a,b,hab⟩:=zU (s:=s) (by omega)
  have:=Bp hab
  exact⟨a,b,hab,by omega⟩) hz (h.dQ.alloc [.int .i64 0,.int .i64 0,.int .i64 0])
 have r':aR AP.A 361 [.int .i64 k,.int .i64 29,.int .i64 0,.fn 75 [] []] (h.dQ.alloc [.int .i64 0,.int .i64 0,.int .i64 0])=some (.agg [.int .i64 (xG k:Nat),.int .i64 (yT k:Nat),.int .i64 (zj k:Nat)],h.dQ.alloc [.int .i64 0,.int .i64 0,.int .i64 0]):=r
 clear r
 generalize xG k=S at *
 generalize yT k=B at *
 generalize zj k=V at *
 refine uL (fn:=AP.f356) (h2:=(h.dQ.alloc [.int .i64 0,.int .i64 0,.int .i64 0]).set h.next [.int .i64 S,.int .i64 B,.int .i64 V]) (e:=[(2,.aE h.next 0),(3,.int .i64 0)]) (vs:=[.agg [.int .i64 S,.int .i64 B,.int .i64 V],.int .i64 0]) rfl rfl rfl ?_ ?_ ?_
 · have a1:¬(k:Int)<1:=by omega
   have a2:¬(32768:Int)<(k:Int):=by omega
   clear sp hz
   simp (disch:=first|omega|(simp only[wY,Vy,VC,vF,Nat.reduceAdd];first|done|omega|fail)|(simp (disch:=first|omega|(simp only[wY,Vy,VC,vF,Nat.reduceAdd];first|done|omega|fail)|fail)only[wY,zX,VG,Vy,VC,vF,Nat.reduceAdd];done)|fail)only[go_sem,wc,zW,AP.f356,a1,a2,r']
 · simp (disch:=first|omega|(simp only[wY,Vy,VC,vF,Nat.reduceAdd];first|done|omega|fail)|(simp (disch:=first|omega|(simp only[wY,Vy,VC,vF,Nat.reduceAdd];first|done|omega|fail)|fail)only[wY,zX,VG,Vy,VC,vF,Nat.reduceAdd];done)|fail)only[go_sem,wc,zW,AP.f356,cu,nM];rfl
 · rfl
theorem Il (h:H) (x d:Int):aR AP.A 349 [.agg [.int .i64 x,.int .i64 0,.int .i64 d]] h=some (.bL [.agg [.int .i64 x,.int .i64 0,.int .i64 0],.agg [.int .i64 0,.int .i64 0,.int .i64 0],.bool false],h):=by
 refine uL (fn:=AP.f349) (h2:=(((((h.dQ.alloc [.int .i64 x,.int .i64 0,.int .i64 d]).alloc [.int .i64 0,.int .i64 0,.int .i64 0]).alloc [.int .i64 0,.int .i64 0,.int .i64 0]).set (h.next+1) [.int .i64 x,.int .i64 0,.int .i64 0]).set (h.next+2) [.int .i64 0,.int .i64 0,.int .i64 0])) (e:=[(2,.aE (h.next+1) 0),(3,.aE (h.next+2) 0),(4,.bool false)]) (vs:=[.agg [.int .i64 x,.int .i64 0,.int .i64 0],.agg [.int .i64 0,.int .i64 0,.int .i64 0],.bool false]) rfl rfl rfl ?_ ?_ ?_
 · simp (disch:=first|omega|(simp only[wY,Vy,VC,vF,Nat.reduceAdd];first|done|omega|fail)|(simp (disch:=first|omega|(simp only[wY,Vy,VC,vF,Nat.reduceAdd];first|done|omega|fail)|fail)only[wY,zX,VG,Vy,VC,vF,Nat.reduceAdd];done)|fail)only[go_sem,wc,zW,AP.f349]
 · simp (disch:=first|omega|(simp only[wY,Vy,VC,vF,Nat.reduceAdd];first|done|omega|fail)|(simp (disch:=first|omega|(simp only[wY,Vy,VC,vF,Nat.reduceAdd];first|done|omega|fail)|fail)only[wY,zX,VG,Vy,VC,vF,Nat.reduceAdd];done)|fail)only[go_sem,wc,zW,AP.f349,cu,nM];rfl
 · rfl
theorem FV (h:H) (k d:Nat) (h1:3≤k) (h2:k≤258) (d1:1≤d) (d2:d≤32768):aR AP.A 349 [.agg [.int .i64 0,.int .i64 k,.int .i64 d]] h=some (.bL [.agg [.int .i64 (xB k:Nat),.int .i64 (yP k:Nat),.int .i64 (y9 k:Nat)],.agg [.int .i64 (xG d:Nat),.int .i64 (yT d:Nat),.int .i64 (zj d:Nat)],.bool true],h):=by
 have k1:=fun g=>Qv g k h1 h2
 have k2:=fun g=>Ns g d d1 d2
 have c0:((k:Int)==0)=false:=by simp;omega
 generalize xB k=S at *
 generalize yP k=B at *
 generalize y9 k=V at *
 generalize xG d=S' at *
 generalize yT d=B' at *
 generalize zj d=V' at *
 obtain⟨g,eg⟩:∃g,g=((((((((h.dQ.alloc [.int .i64 0,.int .i64 k,.int .i64 d]).alloc [.int .i64 0,.int .i64 0,.int .i64 0]).alloc [.int .i64 0,.int .i64 0,.int .i64 0]).alloc [.int .i64 0,.int .i64 0,.int .i64 0]).set (h.next+3) [.int .i64 S,.int .i64 B,.int .i64 V]).alloc [.int .i64 0,.int .i64 0,.int .i64 0]).set (h.next+4) [.int .i64 S',.int .i64 B',.int .i64 V']).set (h.next+1) [.int .i64 S,.int .i64 B,.int .i64 V]).set (h.next+2) [.int .i64 S',.int .i64 B',.int .i64 V']:=⟨_,rfl⟩
 refine uL (fn:=AP.f349) (h2:=g) (e:=[(2,.aE (h.next+1) 0),(3,.aE (h.next+2) 0),(4,.bool true)]) (vs:=[.agg [.int .i64 S,.int .i64 B,.int .i64 V],.agg [.int .i64 S',.int .i64 B',.int .i64 V'],.bool true]) rfl rfl rfl ?_ ?_ ?_
 · rw[eg]
   simp (disch:=first|omega|(simp only[wY,Vy,VC,vF,Nat.reduceAdd];first|done|omega|fail)|(simp (disch:=first|omega|(simp only[wY,Vy,VC,vF,Nat.reduceAdd];first|done|omega|fail)|fail)only[wY,zX,VG,Vy,VC,vF,Nat.reduceAdd];done)|fail)only[go_sem,wc,zW,AP.f349,c0,k1,k2]
 · rw[eg]
   simp (disch:=first|omega|(simp only[wY,Vy,VC,vF,Nat.reduceAdd];first|done|omega|fail)|(simp (disch:=first|omega|(simp only[wY,Vy,VC,vF,Nat.reduceAdd];first|done|omega|fail)|fail)only[wY,zX,VG,Vy,VC,vF,Nat.reduceAdd];done)|fail)only[go_sem,wc,zW,AP.f349,cu,nM];rfl
 · rfl
theorem I3 {h0 h:H} {w:Nat} {bs:List Nat} {ov lv:AV} {E:List (Int×Int)} (rl:xR 2 h0 lv E.length (E.flatMap wX)) (x:WX h0 h w bs ov) (s b v:Nat) (o:BH E s) (hb:b≤16) (hv:v<2^b) (hl:bs.length+31≤65536):
 ∃h' ov',aR AP.A 350 [.aE w 0,lv,.agg [.int .i64 s,.int .i64 b,.int .i64 v]] h=some (.bL [],h')∧WX h0 h' w (bs++(wy E s++wA v b)) ov'∧h.next≤h'.next∧(∀i,i<h.next→i≠w→ov.id?≠some i→h'.get i=h.get i)∧(∀j,ov'.id?=some j→ov.id?=some j∨h.next≤j):=by
 obtain⟨g,eg⟩:∃g,g=h.alloc [.int .i64 s,.int .i64 b,.int .i64 v]:=⟨_,rfl⟩
 have x1:WX h0 g w bs ov:=x.turn (by rw[eg];simp) (by rw[eg];simp) fun i hi=>by rw[eg,v8 (by omega)]
 have gg:g.get h.next=some [.int .i64 s,.int .i64 b,.int .i64 v]:=by rw[eg,wh rfl]
 have hw:=h.lt _ _ x.wr.get
 have hon:ov.id?≠some h.next:=fun q=>by have:=(x.wr.own.lt q).2;omega
 obtain⟨le,l1,l2⟩:=rl.FE
 obtain⟨n,c,q0,q1,q2,q3,q4⟩:=o.bits
 have e1:=l1 s ⟨by omega,by have:=o.lt;omega⟩
 have e2:=l2 g x1.ext _ _ q0
 obtain⟨h2,o2,k1,k2,k3⟩:=JG x1.wr c n q1 q2 q3 (by omega)
 have x2:=x1.step k2 k3
 have g2:h2.get h.next=some [.int .i64 s,.int .i64 b,.int .i64 v]:=(k3.xc h.next (by rw[eg];simp) (by omega) hon).trans gg
 obtain⟨h3,o3,k4,k5,k6⟩:=zk x2.wr v b hb hv (by simp [xm];omega)
 have x3:=x2.step k5 k6
 refine⟨h3,o3,xb (fn:=AP.f350) (e:=[]) (vs:=[]) rfl rfl rfl ?_ rfl,by rw[q4,←VH];exact x3, ?_,fun i hi hiw hio=> ?_,fun j hj=> ?_⟩
 · clear rl l1 l2 x x1 x2 x3 k2 k3 k5 k6 q4
   simp (disch:=omega)only[go_sem,wc,AP.f350,←eg,gg,e1,e2,k1,g2,k4]
 · have a1:=k3.next
   have a2:=k6.next
   rw[eg]at a1;simp at a1;omega
 · have a1:=k3.next
   have e:g.get i=h.get i:=by rw[eg,v8 (by omega)]
   have gn:g.next=h.next+1:=by rw[eg];simp
   rw[k6.xc i (by omega) hiw (fun q=>by
    rcases k3.ids i q with z|z
    · exact hio z
    · omega),k3.xc i (by omega) hiw hio,e]
 · have gn:g.next=h.next+1:=by rw[eg];simp
   rcases k6.ids j hj with z|z
   · rcases k3.ids j z with y|y
     · exact .inl y
     · exact .inr (by omega)
   · have:=k3.next;exact .inr (by omega)
theorem KH {v lv dv:AV} {ts:List Tok} {E D:List (Int×Int)} (hn:ts.length<1000000) (h0:H) (rd:xR 3 h0 v ts.length (wG ts)) (rl:xR 2 h0 lv E.length (E.flatMap wX)) (rx:xR 2 h0 dv D.length (D.flatMap wX)) (w i:Nat) (t:Tok) (ht:ts[i]?=some t) (o:HM E D t) (tk:yN t) (tl:t.len≠0→t.lit=0) (h:H) (bs:List Nat) (ov:AV) (x:WX h0 h w bs ov) (hb:bs.length+48≤65000):
 ∃h' ov',aL (aR AP.A) bp AP.f339L0 (ay [(0,.aE w 0),(2,lv),(3,dv),(14,v),(15,.int .i64 ts.length),(16,.int .i64 i)] [0,2,3,14,15,16]) h=some (.normal,[(0,.aE w 0),(2,lv),(3,dv),(14,v),(15,.int .i64 ts.length),(16,.int .i64 (i+1:Nat))],h')∧WX h0 h' w (bs++wS E D t) ov':=by
 obtain⟨ad,a1,a2,a3⟩:=rd.DA
 have hi:i<ts.length:=(vt.1 ht).1
 have hI:(0:Int)≤(i:Int)∧(i:Int)<ts.length:=⟨by omega,by omega⟩
 have b1:=a1 _ hI
 obtain⟨_,_,_,b2⟩:=a3 h x.ext _ _ ht
 have n1:((i+1:Nat):Int)=(i:Int)+1:=by omega
 have ci:(i:Int)<(ts.length:Int):=hI.2
 have step:∀(S B V S' B' V':Nat) (cp:Bool),(∀g:H,aR AP.A 349 [.agg [.int .i64 t.lit,.int .i64 t.len,.int .i64 t.wL]] g=some (.bL [.agg [.int .i64 S,.int .i64 B,.int .i64 V],.agg [.int .i64 S',.int .i64 B',.int .i64 V'],.bool cp],g))→BH E S→B≤5→V<2^B→(cp=true→BH D S'∧B'≤13∧V'<2^B')→
  ∃h' ov',aL (aR AP.A) bp AP.f339L0 (ay [(0,.aE w 0),(2,lv),(3,dv),(14,v),(15,.int .i64 ts.length),(16,.int .i64 i)] [0,2,3,14,15,16]) h=some (.normal,[(0,.aE w 0),(2,lv),(3,dv),(14,v),(15,.int .i64 ts.length),(16,.int .i64 (i+1:Nat))],h')∧WX h0 h' w (bs++((wy E S++wA V B)++if cp=true then wy D S'++wA V' B' else [])) ov':=by
  intro S B V S' B' V' cp ks oS hB hV hcp
  obtain⟨g1,eg1⟩:∃g,g=(h.alloc [.int .i64 0,.int .i64 0,.int .i64 0]).set h.next [.int .i64 t.lit,.int .i64 t.len,.int .i64 t.wL]:=⟨_,rfl⟩
  obtain⟨g2,eg2⟩:∃g,g=(((g1.alloc [.int .i64 0,.int .i64 0,.int .i64 0]).alloc [.int .i64 0,.int .i64 0,.int .i64 0]).set g1.next [.int .i64 S,.int .i64 B,.int .i64 V]).set (g1.next+1) [.int .i64 S',.int .i64 B',.int .i64 V']:=⟨_,rfl⟩
  have n1':g1.next=h.next+1:=by rw[eg1];simp
  have n2':g2.next=h.next+3:=by rw[eg2];simp;omega
  have fl1:h.floor≤h.next:=x.wr.GO
  have flg:g1.floor≤g1.next:=by rw[n1',eg1];simp;omega
  have gt1:g1.get h.next=some [.int .i64 t.lit,.int .i64 t.len,.int .i64 t.wL]:=by rw[eg1,wu rfl,wh rfl];rfl
  have gk1:∀j,j<h.next→g1.get j=h.get j:=fun j hj=>by rw[eg1,vX (by omega),v8 (by omega)]
  have gk2:∀j,j<h.next→g2.get j=h.get j:=fun j hj=>by rw[eg2,vX (by omega),vX (by omega),v8 (by simp;omega),v8 (by omega),gk1 j hj]
  have x2:WX h0 g2 w bs ov:=x.turn (by rw[eg2,eg1];simp) (by omega) gk2
  have ga:g2.get g1.next=some [.int .i64 S,.int .i64 B,.int .i64 V]:=by rw[eg2,vX (by omega),wu rfl,v8 (by simp),wh rfl];rfl
  have gb:g2.get (g1.next+1)=some [.int .i64 S',.int .i64 B',.int .i64 V']:=by rw[eg2,wu rfl,vX (by omega),wh (by simp)];rfl
  have hA:((g1.alloc [.int .i64 0,.int .i64 0,.int .i64 0]).alloc [.int .i64 0,.int .i64 0,.int .i64 0]).get g1.next=some [.int .i64 0,.int .i64 0,.int .i64 0]:=by rw[v8 (by simp),wh rfl]
  have hB:(((g1.alloc [.int .i64 0,.int .i64 0,.int .i64 0]).alloc [.int .i64 0,.int .i64 0,.int .i64 0]).set g1.next [.int .i64 S,.int .i64 B,.int .i64 V]).get (g1.next+1)=some [.int .i64 0,.int .i64 0,.int .i64 0]:=by rw[vX (by omega),wh (by simp)]
  have hw:=h.lt _ _ x.wr.get
  have hov:∀j,h.next≤j→ov.id?≠some j:=fun j hj q=>by have:=(x.wr.own.lt q).2;omega
  obtain⟨h3,o3,k3,x3,nx3,kp3,id3⟩:=I3 rl x2 S B V oS (by omega) hV (by omega)
  have gb3:h3.get (g1.next+1)=some [.int .i64 S',.int .i64 B',.int .i64 V']:=(kp3 _ (by omega) (by omega) (hov _ (by omega))).trans gb
  have cl:(wy E S++wA V B).length≤20:=by
   obtain⟨n,c,q0,q1,q2,q3,q4⟩:=oS.bits
   rw[q4];simp [xm,wA,wE];omega
  cases cp with
  | false =>
    refine⟨h3,o3, ?_,by simpa using x3⟩
    rw[n1]
    clear rd rl rx a1 a2 a3 x x2 x3 kp3 id3 gk1 gk2 hov hcp
    simp (disch:=omega)only[go_sem,wc,AP.f339L0,ci,b1,b2,←eg1,gt1,ks,hA,hB,←eg2,ga,k3,MN,vH,Wl,VW]
  | true =>
    obtain⟨oS',hB',hV'⟩:=hcp rfl
    obtain⟨h4,o4,k4,x4,_,_,_⟩:=I3 rx x3 S' B' V' oS' (by omega) hV' (by rw[vV];omega)
    refine⟨h4,o4, ?_,by rw[if_pos rfl,←VH];exact x4⟩
    rw[n1]
    clear rd rl rx a1 a2 a3 x x2 x3 x4 kp3 id3 gk1 gk2 hov hcp
    simp (disch:=omega)only[go_sem,wc,AP.f339L0,ci,b1,b2,←eg1,gt1,ks,hA,hB,←eg2,ga,k3,gb3,k4,MN,vH,Wl,VW]
 rcases o with ⟨c0,h2,h3⟩|⟨h1,h2,h3,h4,h5,h6⟩
 · obtain⟨y,hy⟩:∃y:Nat,t.lit=y:=VF h2
   have yt:t.lit.toNat=y:=by omega
   rw[yt]at h3
   obtain⟨h',ov',k,xx⟩:=step y 0 0 0 0 0 false (fun g=>by
    rw[hy,c0];exact Il g y t.wL) h3 (by omega) (by omega) (fun q=>by cases q)
   refine⟨h',ov',k, ?_⟩
   rw[wS,if_pos c0,yt]
   simpa [wA,B5]using xx
 · obtain⟨L,hL⟩:∃y:Nat,t.len=y:=VF (by omega)
   obtain⟨K,hK⟩:∃y:Nat,t.wL=y:=VF (by omega)
   have Lt:t.len.toNat=L:=by omega
   have Kt:t.wL.toNat=K:=by omega
   rw[Lt]at h5
   rw[Kt]at h6
   have lb:=DI (k:=L) (by omega) (by omega)
   have db:=DE (k:=K) (by omega) (by omega)
   obtain⟨h',ov',k,xx⟩:=step (xB L) (yP L) (y9 L) (xG K) (yT K) (zj K) true (fun g=>by
    rw[tl (by omega),hL,hK];exact FV g L K (by omega) (by omega) (by omega) (by omega)) h5 lb.1 lb.2 (fun _=>⟨h6,db.1,db.2⟩)
   refine⟨h',ov',k, ?_⟩
   rw[wS,if_neg (by omega),Lt,Kt]
   simpa [VH]using xx
theorem FL {v lv dv:AV} {ts:List Tok} {E D:List (Int×Int)} (hn:ts.length<1000000) (h0:H) (rd:xR 3 h0 v ts.length (wG ts)) (rl:xR 2 h0 lv E.length (E.flatMap wX)) (rx:xR 2 h0 dv D.length (D.flatMap wX)) (ok:∀t∈ts,HM E D t∧yN t∧(t.len≠0→t.lit=0)) (w:Nat):∀(q p:List Tok) (bs:List Nat) (h:H) (ov:AV),ts=p++q→WX h0 h w bs ov→bs.length+48* q.length≤65000→
 ∃h' ov',Lp AP.A [0,2,3,14,15,16] AP.f339L0 [(0,.aE w 0),(2,lv),(3,dv),(14,v),(15,.int .i64 ts.length),(16,.int .i64 p.length)] h=some (.exit 0,[(0,.aE w 0),(2,lv),(3,dv),(14,v),(15,.int .i64 ts.length),(16,.int .i64 ts.length),(17,.bool false)],h')∧WX h0 h' w (bs++xp E D q) ov'
 | [], p, bs, h, ov, hp, x, hb => by
   rw[VM]at hp;subst hp
   refine⟨h,ov,tW ?_,by simpa [xp]using x⟩
   simp (disch:=omega)only[go_sem,wc,AP.f339L0]
 | t :: q, p, bs, h, ov, hp, x, hb => by
   have ht:ts[p.length]?=some t:=by rw[hp];simp
   obtain⟨o1,o2,o3⟩:=ok t (by rw[hp];simp)
   obtain⟨h1,ov1,k1,x1⟩:=KH hn h0 rd rl rx w p.length t ht o1 o2 o3 h bs ov x (by simp only[Vy]at hb;omega)
   have bl:=Bl o1
   obtain⟨h',ov',L,x2⟩:=FL hn h0 rd rl rx ok w q (p++[t]) _ h1 ov1 (by rw[hp];simp) x1 (by simp only[Vy,vV]at hb ⊢;omega)
   have e3:(p++[t]).length=p.length+1:=by simp
   rw[e3]at L
   refine⟨h',ov',tX k1 L, ?_⟩
   have:xp E D (t::q)=wS E D t++xp E D q:=by simp [xp]
   rw[this,←VH];exact x2
theorem JJ {v lv dv:AV} {ts:List Tok} {E D:List (Int×Int)} (hn:ts.length<1000000) (h0:H) (rd:xR 3 h0 v ts.length (wG ts)) (rl:xR 2 h0 lv E.length (E.flatMap wX)) (rx:xR 2 h0 dv D.length (D.flatMap wX)) (ok:∀t∈ts,HM E D t∧yN t∧(t.len≠0→t.lit=0)) (o256:BH E 256) (w:Nat) (bs:List Nat) (h:H) (ov:AV) (x:WX h0 h w bs ov) (hb:bs.length+48* ts.length≤65000):
 ∃h',aR AP.A 339 [.aE w 0,v,lv,dv] h=some (.str (bytesOf (wJ (bs++(xp E D ts++wy E 256)))),h'):=by
 have ln:=rd.len
 obtain⟨h1,o1,L,x1⟩:=FL hn h0 rd rl rx ok w ts [] bs h ov rfl x hb
 have L':Lp AP.A [0,2,3,14,15,16] AP.f339L0 [(0,.aE w 0),(2,lv),(3,dv),(14,v),(15,.int .i64 ts.length),(16,.int .i64 0)] h=_:=L
 have bl:=BB (E:=E) (D:=D) (ts:=ts) fun t ht=>(ok t ht).1
 obtain⟨h2,o2,k2,x2,_⟩:=I3 rl x1 256 0 0 o256 (by omega) (by omega) (by rw[vV];omega)
 have k3:=JI x2.wr
 have e:bs++xp E D ts++(wy E 256++wA 0 0)=bs++(xp E D ts++wy E 256):=by simp [wA,B5]
 rw[e]at k3
 have k2':aR AP.A 350 [.aE w 0,lv,.agg [.int .i64 256,.int .i64 0,.int .i64 0]] h1=some (.bL [],h2):=k2
 refine⟨h2,um (fn:=AP.f339) (e:=[(8,.str (bytesOf (wJ (bs++(xp E D ts++wy E 256)))))]) (vs:=[.str (bytesOf (wJ (bs++(xp E D ts++wy E 256))))]) rfl rfl rfl ?_ rfl⟩
 clear x1 x2 rd rl rx ok x
 generalize bytesOf (wJ (bs++(xp E D ts++wy E 256)))=TX at *
 simp (disch:=omega)only[go_sem,wc,AP.f339,ln,sX,L',k2',k3]
theorem BW (c:ah) (e:Env) (h:H) (x y:X):ai c e h (.mn [x,y])=dg h (mN (x.ev e) (y.ev e)):=by
 show(gv mN (x.ev e) [y.ev e]).bind _=_
 simp only[gv]
 cases mN (x.ev e) (y.ev e)<;>rfl
def Gk (a b:Int):Int:=if b<a then b else a
theorem Ay (k:IntKind) (a b:Int):mN (.int k a) (.int k b)=some (.int k (Gk a b)):=rfl
structure Tx (hb h:H) (x:Nat) (ov:AV) (out:List Nat):Prop where
 ext:Ext hb h
 fl:h.floor=hb.next
 KR:h.floor≤h.next
 gx:h.get x=some [ov]
 lx:hb.next≤x
 own:wM 1 h ov out.length (yI out)
 nx:ov.id?≠some x
 ES:Iu out
theorem Tx.push {hb h:H} {x:Nat} {ov:AV} {out:List Nat} (v:Tx hb h x ov out) (b:Nat) (hb8:b<256) (hl:out.length<100000):∃h1 v1,kS (h.alloc [.int .u8 b]) 1 1 ov (.aF h.next 0 1 1)=some (v1,h1)∧v1.sc=true∧v1.cells=[v1]∧h1.get x=some [ov]∧h1.floor≤x∧Tx hb (h1.set x [v1]) x v1 (out++[b])∧h.next≤(h1.set x [v1]).next∧∀i,i<h.next→i≠x→ov.id?≠some i→(h1.set x [v1]).get i=h.get i:=by
 obtain⟨v1,h1,p1,p2,p3,p4,p5,p6⟩:=v.own.push v.KR (z:=1) (m:=1) (by omega) (by omega) [.int .u8 b] rfl rfl (xK (by omega))
 have lx:=h.lt _ _ v.gx
 have fl:=v.fl
 have vlx:=v.lx
 have g1:h1.get x=some [ov]:=by rw[p5 x v.nx lx,v.gx]
 refine⟨h1,v1,p1,p2.sc,p2.cells,g1,by omega,⟨fun i c hi=> ?_,by simp;omega,by simp;have:=v.KR;omega,by rw[wu rfl,g1];rfl,v.lx, ?_, ?_,fun y hy=> ?_⟩,by simp;omega,fun i h1' h2 h3=>by rw[vX h2,p5 i h3 h1']⟩
 · have l1:=hb.lt _ _ hi
   have e:=v.ext i c hi
   have l2:=h.lt _ _ e
   rw[vX (by omega),p5 i (fun q=>by have:=(v.own.lt q).1;omega) l2,e]
 · rw[AQ,vV]
   exact p2.mono (by simp) fun j hj=>by
    rw[p6]at hj
    have:=vm hj
    rw[vX (by omega)]
 · rw[p6];intro q;have:=vm q;omega
 · rcases VY.1 hy with q|q
   · exact v.ES y q
   · simp at q;omega
theorem FH {hb : H} {x c L D : Nat} {l0 : AV} (hL : L ≤ 258) (hD1 : 1 ≤ D) : ∀ (m j : Nat) (out : List Nat) (h : H) (ov : AV), j + m = L → D ≤ out.length → out.length + m ≤ 10000 → Tx hb h x ov out → h.get c = some [l0, .int .i64 L, .int .i64 D] → c ≠ x → ov.id? ≠ some c →
 ∃h' ov',Lp AP.A [0,3,82,83] AP.f353L0 [(0,.aE x 0),(3,.aE c 0),(82,.int .i64 L),(83,.int .i64 j)] h=some (.exit 0,[(0,.aE x 0),(3,.aE c 0),(82,.int .i64 L),(83,.int .i64 L),(84,.bool false)],h')∧Tx hb h' x ov' (Gc D m out)∧h.next≤h'.next
 | 0, j, out, h, ov, hj, hDo, hs, v, gc, hcx, hoc => by
   obtain rfl:j=L:=by omega
   refine⟨h,ov,tW ?_,v,vB _⟩
   simp (disch:=omega)only[go_sem,wc,AP.f353L0]
 | m + 1, j, out, h, ov, hj, hDo, hs, v, gc, hcx, hoc => by
   have cj:(j:Int)<(L:Int):=by omega
   have gx:=v.gx
   have lc:=h.lt _ _ gc
   obtain⟨y,hy⟩:∃y,out[out.length-D]?=some y:=⟨_,Vz (by omega)⟩
   have gy:=MV hy
   have gd:out.getD (out.length-D) 0=y:=by rw[Vx,hy];rfl
   have y8:=v.ES y (vE hy)
   obtain⟨h1,v1,p1,p2,p3,p4,p5,t1,n1,k1⟩:=v.push y y8 (by omega)
   obtain ⟨h', ov', L', t2, n2⟩ := FH hL hD1 m (j + 1) (out ++ [y]) (h1.set x [v1]) v1 (by omega) (by simp; omega) (by simp; omega) t1 (by rw [k1 c lc hcx hoc, gc]) hcx (fun q => by
    have:=t1.own.lt q
    have e:=t1.nx
    have:(h1.set x [v1]).get c=h.get c:=k1 c lc hcx hoc
    have q2:=t1.own.2
    rcases q2 with ⟨q3,_⟩|⟨i2,q3,q4,_⟩
    · rw[q3]at q;cases q
    · rw [q3] at q
      obtain rfl:=vm q
      rw[this,gc]at q4
      have:=Wj List.length (vm q4)
      have q5:=vm q4
      cases hbo:yI (out++[y])with
      |nil=>rw[hbo]at q5;cases q5
      | cons a r =>
        cases hout:out with
        |nil=>rw[hout]at hDo;simp at hDo;omega
        | cons o r2 =>
          have hl:(yI (out++[y])).length=3:=by rw[←q5];rfl
          have e2:(yI (out++[y]))[1]?=some (.int .i64 L):=by rw[←q5];rfl
          have e3:∃z:Nat,(yI (out++[y]))[1]?=some (.int .u8 z):=by
           simp only[yI,vJ]
           rw[K5]at hl
           rw[Vz (by omega)]
           exact⟨_,rfl⟩
          obtain⟨z,e3⟩:=e3
          rw[e2]at e3
          cases vm e3)
   have e1:((j+1:Nat):Int)=(j:Int)+1:=by omega
   have e2:(out.length:Int)-(D:Int)=((out.length-D:Nat):Int):=by omega
   have bl:=K5 out
   rw[Gc,gd]
   refine⟨h',ov',tX ?_ L',t2,by omega⟩
   rw[e1]
   rcases v.own.2 with ⟨_,q⟩|⟨id,q1,q2,q3,q4⟩
   · omega
   subst q1
   have ib:cN (.int .i64 ((out.length:Int)-(D:Int))) out.length=some (out.length-D):=by
    rw[e2]
    have:((out.length-D:Nat):Int)<out.length:=by omega
    simp [cN,n7,this]
   have dl:(D:Int)≤100000:=by omega
   clear v t1 t2 L' k1 hoc e2
   generalize yI out=BO at *
   simp (disch:=omega)only[go_sem,wc,AP.f353L0,cj,gx,gc,AN,ib,q2,gy,bl,p1,p2,p3,p4,p5]
def I9 (out:List Nat) (t:Tok):Option (List Nat):=match wW out.length t with
 |none=>none
 |some s'=>if 8192<s' then none else some (wR out t)
theorem Qw {hb h : H} {x : Nat} {ov : AV} {out : List Nat} (v : Tx hb h x ov out) (t : Tok) (hl : out.length ≤ 8192) :
 ∃h' ov',aR AP.A 353 [.aE x 0,.agg [.int .i64 t.lit,.int .i64 t.len,.int .i64 t.wL]] h=some (.bool (I9 out t).isSome,h')∧Tx hb h' x ov' ((I9 out t).getD out)∧h.next≤h'.next:=by
 obtain⟨g,eg⟩:∃g,g=h.alloc [.int .i64 t.lit,.int .i64 t.len,.int .i64 t.wL]:=⟨_,rfl⟩
 have lx:=h.lt _ _ v.gx
 have gn:g.next=h.next+1:=by rw[eg];simp
 have gk:∀i,i<h.next→g.get i=h.get i:=fun i hi=>by rw[eg,v8 (by omega)]
 have gc:g.get h.next=some [.int .i64 t.lit,.int .i64 t.len,.int .i64 t.wL]:=by rw[eg,wh rfl]
 have v1:Tx hb g x ov out:=⟨fun i c hi=>by
  have e:=v.ext i c hi
  have:=h.lt _ _ e
  rw[gk i this,e],by rw[eg];simpa using v.fl,by rw[gn,eg];have:=v.KR;simp;omega,by rw[gk x lx,v.gx],v.lx,v.own.mono (by rw[eg];simp) fun i hi=>gk i (v.own.lt hi).2,v.nx,v.ES⟩
 have gx:=v1.gx
 have hov:ov.id?≠some h.next:=fun q=>by have:=(v.own.lt q).2;omega
 have ln:jg false ov=some (.int .i64 out.length):=v.own.rd.len
 unfold I9 wW
 by_cases c0:t.len=0
 · rw [if_pos c0]
   rw[c0]at eg gc
   rw[c0]
   by_cases c1:t.lit<0∨255<t.lit∨t.wL≠0
   · rw [if_pos c1]
     refine⟨g,ov,um (fn:=AP.f353) (e:=[(4,.bool false)]) (vs:=[.bool false]) rfl rfl rfl ?_ rfl,v1,by omega⟩
     clear v v1
     by_cases d1:t.lit<0
     · simp (disch:=omega)only[go_sem,wc,AP.f353,←eg,gc,d1]
     · by_cases d2:255<t.lit
       · simp (disch:=omega)only[go_sem,wc,AP.f353,←eg,gc,d1,d2]
       · have d3:(t.wL !=0)=true:=by simp;omega
         simp (disch:=omega)only[go_sem,wc,AP.f353,←eg,gc,d1,d2,d3]
   · rw[if_neg c1]
     have d1:¬t.lit<0:=by omega
     have d2:¬255<t.lit:=by omega
     have d3:(t.wL !=0)=false:=by simp;omega
     by_cases c2:(8192:Int)<(out.length:Int)+1
     · simp only[if_pos c2]
       refine⟨g,ov,um (fn:=AP.f353) (e:=[(4,.bool false)]) (vs:=[.bool false]) rfl rfl rfl ?_ rfl,v1,by omega⟩
       have d4:(8192:Int)≤(out.length:Int):=by omega
       clear v v1
       simp (disch:=omega)only[go_sem,wc,AP.f353,←eg,gc,d1,d2,d3,gx,ln,d4]
     · simp only[if_neg c2]
       obtain⟨b,hb8⟩:∃b:Nat,t.lit=b:=VF (by omega)
       obtain⟨h1,w1,p1,p2,p3,p4,p5,t1,n1,k1⟩:=v1.push b (by omega) (by omega)
       have eo:wR out t=out++[b]:=by unfold wR;rw[if_pos c0,hb8];rfl
       refine⟨h1.set x [w1],w1,um (fn:=AP.f353) (e:=[(4,.bool true)]) (vs:=[.bool true]) rfl rfl rfl ?_ rfl,by simp only[Option.getD_some];rw[eo];exact t1,by omega⟩
       have d4:¬(8192:Int)≤(out.length:Int):=by omega
       rw[hb8]at gc d1 d2 eg ⊢
       have wb1:IntKind.wrap .u8 (b:Int)=b:=To (by omega)
       clear v v1 t1 k1
       simp (disch:=omega)only[go_sem,wc,AP.f353,←eg,gc,d1,d2,d3,gx,ln,d4,wb1,p1,p2,p3,p4,p5]
 · rw [if_neg c0]
   have cb:(t.len==0)=false:=by simp;omega
   by_cases c1:t.len<3∨258<t.len∨t.wL<1∨32768<t.wL∨(out.length:Int)<t.wL∨t.lit≠0
   · rw [if_pos c1]
     refine⟨g,ov,um (fn:=AP.f353) (e:=[(4,.bool false)]) (vs:=[.bool false]) rfl rfl rfl ?_ rfl,v1,by omega⟩
     clear v v1
     by_cases d1:t.lit=0
     · have d1':(t.lit !=0)=false:=by simp [d1]
       by_cases d2:t.len<3
       · simp (disch:=omega)only[go_sem,wc,AP.f353,←eg,gc,cb,d1',d2]
       · by_cases d3:258<t.len
         · simp (disch:=omega)only[go_sem,wc,AP.f353,←eg,gc,cb,d1',d2,d3]
         · by_cases d4:t.wL<1
           · simp (disch:=omega)only[go_sem,wc,AP.f353,←eg,gc,cb,d1',d2,d3,d4]
           · have d5:Gk out.length 32768<t.wL:=by unfold Gk;split<;>omega
             simp (disch:=omega)only[go_sem,wc,AP.f353,←eg,gc,cb,d1',d2,d3,d4,gx,ln,BW,Ay,d5]
     · have d1':(t.lit !=0)=true:=by simp [d1]
       simp (disch:=omega)only[go_sem,wc,AP.f353,←eg,gc,cb,d1']
   · rw [if_neg c1]
     have d1:(t.lit !=0)=false:=by simp;omega
     have d2:¬t.len<3:=by omega
     have d3:¬258<t.len:=by omega
     have d4:¬t.wL<1:=by omega
     have d5:¬Gk out.length 32768<t.wL:=by unfold Gk;split<;>omega
     by_cases c2:(8192:Int)<(out.length:Int)+t.len
     · simp only[if_pos c2]
       refine⟨g,ov,um (fn:=AP.f353) (e:=[(4,.bool false)]) (vs:=[.bool false]) rfl rfl rfl ?_ rfl,v1,by omega⟩
       have sb:t.len≤258:=by omega
       have sb2:0≤t.len:=by omega
       clear v v1
       simp (disch:=omega)only[go_sem,wc,AP.f353,←eg,gc,cb,d1,d2,d3,d4,gx,ln,BW,Ay,d5,c2]
     · simp only[if_neg c2]
       obtain⟨L,hL⟩:∃y:Nat,t.len=y:=VF (by omega)
       obtain⟨D,hD⟩:∃y:Nat,t.wL=y:=VF (by omega)
       rw[hL,hD]at gc eg
       obtain⟨h',ov',L1,t2,n2⟩:=FH (hb:=hb) (c:=h.next) (l0:=.int .i64 t.lit) (L:=L) (D:=D) (by omega) (by omega) L 0 out g ov (by omega) (by omega) (by omega) v1 gc (by omega) hov
       have L1':Lp AP.A [0,3,82,83] AP.f353L0 [(0,.aE x 0),(3,.aE h.next 0),(82,.int .i64 L),(83,.int .i64 0)] g=_:=L1
       have eo:wR out t=Gc D L out:=by
        unfold wR;rw[if_neg c0,hL,hD];rfl
       refine⟨h',ov',um (fn:=AP.f353) (e:=[(4,.bool true)]) (vs:=[.bool true]) rfl rfl rfl ?_ rfl,by simp only[Option.getD_some];rw[eo];exact t2,by omega⟩
       rw[hL]at cb d2 d3 c2 ⊢
       rw[hD]at d4 d5 ⊢
       have sb:L≤258:=by omega
       clear v v1 t2 L1
       simp (disch:=omega)only[go_sem,wc,AP.f353,←eg,gc,cb,d1,d2,d3,d4,gx,ln,BW,Ay,d5,c2,sX,L1']
theorem BM {out:List Nat} {t:Tok} {s':Int} (h:wW out.length t=some s'):((wR out t).length:Int)=s':=by
 unfold wW at h
 unfold wR
 by_cases c:t.len=0
 · rw[if_pos c]at h ⊢
   split at h
   · cases h
   · have:=vm h;simp;omega
 · rw[if_neg c]at h ⊢
   split at h
   · cases h
   · have:=vm h;rw[Co];omega
theorem Js : ∀ (ts : List Tok) (out : List Nat), wF out.length ts = true → out.length ≤ 8192 → (ya ts out).length ≤ 8192
 |[],_,_,h=>h
 | t :: r, out, hm, _ => by
   unfold wF at hm
   cases e:wW out.length t with
   |none=>rw[e]at hm;cases hm
   | some s' =>
     rw[e]at hm
     have l:=BM e
     by_cases c:8192<s'
     · simp only[if_pos c]at hm;cases hm
     · simp only[if_neg c]at hm
       rw[←l]at hm
       exact Js r (wR out t) hm (by omega)
theorem IE {ts:List Tok} {t:ByteArray} (h:yy ts=some t):t.size≤8192:=by
 unfold yy at h
 split at h
 · rename_i c
   rw[←vm h,xC]
   exact Js ts [] c (by simp)
 · cases h
theorem GS {hb : H} {x : Nat} {v : AV} {ts : List Tok} (hn : ts.length < 1125899906842624) (rd : xR 3 hb v ts.length (wG ts)) : ∀ (q p : List Tok) (out : List Nat) (h : H) (ov : AV), ts = p ++ q → Tx hb h x ov out → out.length ≤ 8192 →
 (wF out.length q=true→∃h' ov' e',Lp AP.A [5,10,11,12] AP.f343L0 [(5,.fn 353 [.aE x 0] []),(10,v),(11,.int .i64 ts.length),(12,.int .i64 p.length)] h=some (.exit 0,e',h')∧Tx hb h' x ov' (ya q out)∧(ya q out).length≤8192)∧
 (wF out.length q=false→∃h',Lp AP.A [5,10,11,12] AP.f343L0 [(5,.fn 353 [.aE x 0] []),(10,v),(11,.int .i64 ts.length),(12,.int .i64 p.length)] h=some (.ret,[(4,.bool false)],h'))
 | [], p, out, h, ov, hp, t, hl => by
   rw[VM]at hp;subst hp
   refine⟨fun _=>⟨h,ov,[(5,.fn 353 [.aE x 0] []),(10,v),(11,.int .i64 ts.length),(12,.int .i64 ts.length),(13,.bool false)],tW ?_,t,hl⟩,fun q=>by cases q⟩
   simp (disch:=omega)only[go_sem,wc,AP.f343L0]
 | k :: q, p, out, h, ov, hp, t, hl => by
   have hlen:ts.length=p.length+(q.length+1):=by rw[hp];simp
   have hk:ts[p.length]?=some k:=by rw[hp];simp
   obtain⟨ad,a1,a2,a3⟩:=rd.DA
   have b1:=a1 p.length ⟨by omega,by omega⟩
   obtain⟨_,_,_,b2⟩:=a3 h t.ext _ _ hk
   have c1:((p.length:Nat):Int)<ts.length:=by omega
   obtain⟨g,eg⟩:∃g,g=(h.alloc [.int .i64 0,.int .i64 0,.int .i64 0]).set h.next [.int .i64 k.lit,.int .i64 k.len,.int .i64 k.wL]:=⟨_,rfl⟩
   have gg:g.get h.next=some [.int .i64 k.lit,.int .i64 k.len,.int .i64 k.wL]:=by rw[eg,wu rfl,wh rfl];rfl
   have gn:g.next=h.next+1:=by rw[eg];simp
   have gk:∀i,i<h.next→g.get i=h.get i:=fun i hi=>by rw[eg,vX (by omega),v8 (by omega)]
   have fl1:h.floor≤h.next:=t.KR
   have lx:=h.lt _ _ t.gx
   have tg:Tx hb g x ov out:=⟨fun i c hi=>by
    have e:=t.ext i c hi
    have:=h.lt _ _ e
    rw[gk i this,e],by rw[eg];simpa using t.fl,by rw[gn,eg];simp;omega,by rw[gk x lx,t.gx],t.lx,t.own.mono (by rw[eg];simp) fun i hi=>gk i (t.own.lt hi).2,t.nx,t.ES⟩
   obtain⟨h1,ov1,k1,t1,_⟩:=Qw tg k hl
   have k1':kI (aR AP.A) [.agg [.int .i64 k.lit,.int .i64 k.len,.int .i64 k.wL]] g (.fn 353 [.aE x 0] [])=some (.bool (I9 out k).isSome,h1):=k1
   cases hs:I9 out k with
   | none =>
     have hm:wF out.length (k::q)=false:=by
      unfold I9 at hs
      rw[wF]
      cases e:wW out.length k with
      |none=>rfl
      | some s' =>
        rw[e]at hs
        simp only at hs ⊢
        by_cases c:8192<s'
        · rw[if_pos c]
        · rw[if_neg c]at hs;cases hs
     refine⟨fun q=>(by rw[hm]at q;cases q),fun _=>⟨h1,uz ?_⟩⟩
     rw[hs]at k1'
     have k2:aR AP.A 353 ([.aE x 0]++[.agg [.int .i64 k.lit,.int .i64 k.len,.int .i64 k.wL]]++[]) g=some (.bool false,h1):=k1'
     simp only[List.cons_append,Wd,VM]at k2
     clear t tg t1 a1 a2 a3 rd
     simp (disch:=omega)only[go_sem,wc,AP.f343L0,c1,b1,b2,←eg,gg,k2,MN,vH,Wl,VW]
   | some o' =>
     rw[hs]at t1 k1'
     simp only[Option.getD_some]at t1
     have key:∃s',wW out.length k=some s'∧¬8192<s'∧o'=wR out k:=by
      unfold I9 at hs
      cases e:wW out.length k with
      |none=>rw[e]at hs;cases hs
      | some s' =>
        rw[e]at hs
        simp only at hs
        by_cases c:8192<s'
        · rw[if_pos c]at hs;cases hs
        · rw[if_neg c]at hs
          exact⟨s',rfl,c,(vm hs).symm⟩
     obtain⟨s',e1,e2,e3⟩:=key
     have el:=BM e1
     rw[←e3]at el
     have hm:wF out.length (k::q)=wF o'.length q:=by
      rw[wF,e1]
      simp only[if_neg e2,el]
     have ee:ya (k::q) out=ya q o':=by rw[ya,e3]
     rw[hm,ee]
     have k2:aR AP.A 353 ([.aE x 0]++[.agg [.int .i64 k.lit,.int .i64 k.len,.int .i64 k.wL]]++[]) g=some (.bool true,h1):=k1'
     simp only[List.cons_append,Wd,VM]at k2
     obtain⟨r1,r2⟩:=GS hn rd q (p++[k]) o' h1 ov1 (by rw[hp];simp) t1 (by omega)
     have w1:((p++[k]).length:Int)=(p.length:Int)+1:=by simp
     rw[w1]at r1 r2
     have st:aL (aR AP.A) bp AP.f343L0 (ay [(5,.fn 353 [.aE x 0] []),(10,v),(11,.int .i64 ts.length),(12,.int .i64 p.length)] [5,10,11,12]) h=some (.normal,[(5,.fn 353 [.aE x 0] []),(10,v),(11,.int .i64 ts.length),(12,.int .i64 ((p.length:Int)+1))],h1):=by
      clear t tg t1 a1 a2 a3 rd r1 r2
      simp (disch:=omega)only[go_sem,wc,AP.f343L0,c1,b1,b2,←eg,gg,k2,MN,vH,Wl,VW]
     refine⟨fun z=> ?_,fun z=> ?_⟩
     · obtain⟨h',ov',e',L,q1,q2⟩:=r1 z
       exact⟨h',ov',e',tX st L,q1,q2⟩
     · obtain⟨h',L⟩:=r2 z
       exact⟨h',tX st L⟩
theorem KE (h:H) (v:AV) (ts:List Tok) (hn:ts.length<1125899906842624) (rd:xR 3 h v ts.length (wG ts)):aR AP.A 328 [v] h=some (Kg (yy ts),h):=by
 have yO:xR 3 h.dQ v ts.length (wG ts):=rd.mono fun i c q=>q
 have ln:=rd.len
 obtain⟨g,eg⟩:∃g,g=h.dQ.alloc [.aP]:=⟨_,rfl⟩
 have gx:g.get h.next=some [.aP]:=by rw[eg,wh (by simp)]
 have t0:Tx h.dQ g h.next .aP []:=⟨by rw[eg];exact(Ext.refl _).alloc _,by rw[eg];simp,by rw[eg];simp,gx,by simp,wM.nil,by simp [AV.id?],fun y hy=>by simp at hy⟩
 obtain⟨r1,r2⟩:=GS hn yO ts [] [] g .aP rfl t0 (by simp)
 have hN:h.dQ.next=h.next:=rfl
 unfold yy
 by_cases hm:wF 0 ts=true
 · rw[if_pos hm]
   obtain⟨h',ov',e',L,t1,_⟩:=r1 hm
   have L':Lp AP.A [5,10,11,12] AP.f343L0 [(5,.fn 353 [.aE h.next 0] []),(10,v),(11,.int .i64 ts.length),(12,.int .i64 0)] g=some (.exit 0,e',h'):=L
   have k:aR AP.A 343 [.aE h.next 0,v] g=some (.bool true,h'):=by
    refine um (fn:=AP.f343) (e:=[(4,.bool true)]) (vs:=[.bool true]) rfl rfl rfl ?_ rfl
    clear t1 t0 rd yO r1 r2
    simp (disch:=omega)only[go_sem,wc,AP.f343,ln,sX,L']
   have b:=Cg t1.own
   have g1:=t1.gx
   refine uL (fn:=AP.f328) (h2:=h') (e:=[(2,.str (bytesOf (ya ts []))),(3,.int .i64 0)]) (vs:=[.str (bytesOf (ya ts [])),.int .i64 0]) rfl rfl rfl ?_ rfl rfl
   clear t1 t0 rd yO r1 r2 L L'
   generalize bytesOf (ya ts [])=B at *
   simp (disch:=omega)only[go_sem,wc,AP.f328,←eg,hN,k,g1,b]
 · rw[if_neg hm]
   obtain⟨h',L⟩:=r2 (Bool.eq_false_iff.2 hm)
   have L':Lp AP.A [5,10,11,12] AP.f343L0 [(5,.fn 353 [.aE h.next 0] []),(10,v),(11,.int .i64 ts.length),(12,.int .i64 0)] g=some (.ret,[(4,.bool false)],h'):=L
   have k:aR AP.A 343 [.aE h.next 0,v] g=some (.bool false,h'):=by
    refine um (fn:=AP.f343) (e:=[(4,.bool false)]) (vs:=[.bool false]) rfl rfl rfl ?_ rfl
    clear t0 rd yO r1 r2
    simp (disch:=omega)only[go_sem,wc,AP.f343,ln,sX,L']
   refine uL (fn:=AP.f328) (h2:=h') (e:=[(2,.str ⟨#[]⟩),(3,.int .i64 500)]) (vs:=[.str ⟨#[]⟩,.int .i64 500]) rfl rfl rfl ?_ rfl rfl
   clear t0 rd yO r1 r2 L L'
   simp (disch:=omega)only[go_sem,wc,AP.f328,←eg,hN,k]
theorem IZ (h:H) (v:AV) (ts:List Tok) (hn:ts.length<1125899906842624) (rd:xR 3 h v ts.length (wG ts)):aR AP.A 337 [v] h=some (.bool (Ag ts),h):=by
 have k:=KE h.dQ v ts hn (rd.mono fun i c q=>q)
 unfold Ag
 cases he:yy ts with
 | none =>
   rw[he]at k
   simp only[Kg]at k
   refine uL (fn:=AP.f337) (h2:=h.dQ) (e:=[(2,.bool false)]) (vs:=[.bool false]) rfl rfl rfl ?_ rfl rfl
   have cb:((500:Int)==0)=false:=by decide
   clear rd
   simp (disch:=omega)only[go_sem,wc,AP.f337,k,cb]
 | some t =>
   rw[he]at k
   have:=IE he
   simp only[Kg]at k
   refine uL (fn:=AP.f337) (h2:=h.dQ) (e:=[(2,.bool (decide (t.size≤300)))]) (vs:=[.bool (decide (t.size≤300))]) rfl rfl rfl ?_ rfl rfl
   have cb:((0:Int)==0)=true:=by decide
   clear rd
   by_cases c:t.size≤300
   · have c':(t.size:Int)≤300:=by omega
     simp (disch:=omega)only[go_sem,wc,AP.f337,k,VE c,c',cb]
   · have c':¬(t.size:Int)≤300:=by omega
     simp (disch:=omega)only[go_sem,wc,AP.f337,k,VD c,c',cb]
theorem Fy (s : ByteArray) (i d : Nat) (hs : s.size < 100000) (hd : d ≤ i) (hi : i ≤ s.size) (h : H) : ∀ (f k : Nat), k + f = 258 →
 ∃e',Lp AP.A [0,1,2,7] AP.f354L0 [(0,.str s),(1,.int .i64 i),(2,.int .i64 d),(7,.int .i64 k)] h=some (.exit 0,e',h)∧look e' 7=.int .i64 (zN s i (i-d) f k:Nat)
 | 0, k, hk => by
   obtain rfl:k=258:=by omega
   refine⟨[(0,.str s),(1,.int .i64 i),(2,.int .i64 d),(7,.int .i64 258),(32,.bool false)],tW ?_,rfl⟩
   have c:¬((258:Nat):Int)<258:=by omega
   simp (disch:=omega)only[go_sem,wc,AP.f354L0,c]
 | f + 1, k, hk => by
   have n1:((k:Int)+1)=((k+1:Nat):Int):=by omega
   have c0:(k:Int)<258:=by omega
   by_cases c1:i+k<s.size
   · have c1':(i:Int)+(k:Int)<s.size:=by omega
     have x1:mK (.str s) (.int .i64 ((i:Int)+(k:Int)))=some (.int .u8 (zg s (i+k):Nat)):=by
      have:=Br (s:=s) (i:=(i:Int)+(k:Int)) ⟨by omega,by omega⟩
      rw[show((i:Int)+(k:Int)).toNat=i+k by omega]at this;exact this
     have x2:mK (.str s) (.int .i64 ((i:Int)+(k:Int)-(d:Int)))=some (.int .u8 (zg s (i-d+k):Nat)):=by
      have:=Br (s:=s) (i:=(i:Int)+(k:Int)-(d:Int)) ⟨by omega,by omega⟩
      rw[show((i:Int)+(k:Int)-(d:Int)).toNat=i-d+k by omega]at this;exact this
     by_cases c2:zg s (i+k)=zg s (i-d+k)
     · obtain⟨e',r1,r2⟩:=Fy s i d hs hd hi h f (k+1) (by omega)
       refine⟨e',tX ?_ r1, ?_⟩
       · rw[←n1]
         have cb:((zg s (i+k):Int)==(zg s (i-d+k):Int))=true:=by simp [c2]
         simp (disch:=omega)only[go_sem,wc,AP.f354L0,c0,c1',x1,x2,cb]
       · rw[r2,zN,if_pos ⟨by omega,c1,c2⟩]
     · refine⟨[(0,.str s),(1,.int .i64 i),(2,.int .i64 d),(7,.int .i64 k),(32,.bool false)],tW ?_, ?_⟩
       · have cb:((zg s (i+k):Int)==(zg s (i-d+k):Int))=false:=by simp;omega
         simp (disch:=omega)only[go_sem,wc,AP.f354L0,c0,c1',x1,x2,cb]
       · rw[zN,if_neg (fun q=>c2 q.2.2)];rfl
   · refine⟨[(0,.str s),(1,.int .i64 i),(2,.int .i64 d),(7,.int .i64 k),(32,.bool false)],tW ?_, ?_⟩
     · have c1':¬(i:Int)+(k:Int)<s.size:=by omega
       simp (disch:=omega)only[go_sem,wc,AP.f354L0,c0,c1']
     · rw[zN,if_neg (fun q=>c1 q.2.1)];rfl
theorem Qq (h:H) (s:ByteArray) (i d:Nat) (hs:s.size<100000) (hd:d≤i) (hi:i≤s.size):aR AP.A 354 [.str s,.int .i64 i,.int .i64 d] h=some (.int .i64 (same s i (i-d):Nat),h):=by
 obtain⟨e',r1,r2⟩:=Fy s i d hs hd hi h.dQ 258 0 rfl
 have r1':Lp AP.A [0,1,2,7] AP.f354L0 [(0,.str s),(1,.int .i64 i),(2,.int .i64 d),(7,.int .i64 0)] h.dQ=some (.exit 0,e',h.dQ):=r1
 clear r1
 refine uL (fn:=AP.f354) (h2:=h.dQ) (e:=[(6,.int .i64 (same s i (i-d):Nat))]) (vs:=[.int .i64 (same s i (i-d):Nat)]) rfl rfl rfl ?_ rfl rfl
 simp (disch:=omega)only[go_sem,wc,AP.f354,sX,r1',r2,same]
def FB (b:Nat×Nat):Nat×Nat:=if b.1<3 then(0,0)else b
theorem LO (b:Nat×Nat) (m d:Nat):FB (if b.1<m then(m,d)else b)=if 3≤m∧(FB b).1<m then(m,d)else FB b:=by
 unfold FB
 by_cases c:b.1<3
 · rw[if_pos c]
   by_cases q:b.1<m
   · rw[if_pos q]
     by_cases z:m<3
     · rw[if_pos z,if_neg (by omega)]
     · rw[if_neg z,if_pos ⟨by omega,by show 0<m;omega⟩]
   · rw[if_neg q,if_pos c,if_neg (by omega)]
 · rw[if_neg c]
   by_cases q:b.1<m
   · rw[if_pos q,if_neg (by show¬m<3;omega),if_pos ⟨by omega,q⟩]
   · rw[if_neg q,if_neg c,if_neg (fun z=>q z.2)]
theorem B3 (s : ByteArray) (i : Nat) (hs : s.size < 32000) (hi : i < s.size) (v4 : AV) (c5 : Nat) : ∀ (n : Nat) (b : Nat × Nat) (d : Int) (h : H), n ≤ i → d = (i : Int) - n + 1 → h.get c5 = some [.int .i64 0, .int .i64 (FB b).1, .int .i64 (FB b).2] → h.floor ≤ c5 →
 ∃e' h',Lp AP.A [0,1,4,5,6] AP.f344L0 [(0,.str s),(1,.int .i64 i),(4,v4),(5,.aE c5 0),(6,.int .i64 d)] h=some (.exit 0,e',h')∧look e' 4=v4∧look e' 5=.aE c5 0∧h'.get c5=some [.int .i64 0,.int .i64 (FB (xf s i n b)).1,.int .i64 (FB (xf s i n b)).2]∧(∀j,j≠c5→h'.get j=h.get j)∧h'.next=h.next∧h'.floor=h.floor
 | 0, b, d, h, hn, hd, hg, hf => by
   refine⟨[(0,.str s),(1,.int .i64 i),(4,v4),(5,.aE c5 0),(6,.int .i64 d),(11,.bool false)],h,tW ?_,rfl,rfl,hg,fun _ _=>rfl,rfl,rfl⟩
   have m:Gk (i:Int) 32768=i:=by unfold Gk;rw[if_neg (by omega)]
   have c:¬d≤(i:Int):=by omega
   simp (disch:=omega)only[go_sem,wc,AP.f344L0,BW,Ay,m,c]
 | n + 1, b, d, h, hn, hd, hg, hf => by
   have m:Gk (i:Int) 32768=i:=by unfold Gk;rw[if_neg (by omega)]
   have c:d≤(i:Int):=by omega
   obtain⟨D,rfl⟩:∃D:Nat,d=D:=VF (by omega)
   have k1:=fun g=>Qq g s i D (by omega) (by omega) (by omega)
   have eD:i-D=n:=by omega
   rw[eD]at k1
   have k2:=JM s i n
   have st:=LO b (same s i n) (i-n)
   have iD:i-n=D:=by omega
   rw[xf]
   by_cases q:3≤same s i n∧(FB b).1<same s i n
   · rw[if_pos q,iD]at st
     rw[iD]
     obtain⟨e',h',L,r1,r2,r3,r4,r5,r6⟩:=B3 s i hs hi v4 c5 n (if b.1<same s i n then(same s i n,D)else b) ((D:Int)+1) (h.set c5 [.int .i64 0,.int .i64 (same s i n:Nat),.int .i64 D]) (by omega) (by omega) (by rw[wu rfl,hg,st];rfl) (by simpa using hf)
     refine⟨e',h',tX ?_ L,r1,r2,r3,fun j hj=>by rw[r4 j hj,vX hj],by rw[r5];simp,by rw[r6];simp⟩
     have q1:(3:Int)≤(same s i n:Nat):=by omega
     have q2:((FB b).1:Int)<(same s i n:Nat):=by omega
     clear L r3 r4 st
     generalize same s i n=M at *
     generalize (FB b).1=B1 at *
     generalize (FB b).2=B2 at *
     simp (disch:=omega)only[go_sem,wc,AP.f344L0,BW,Ay,m,c,k1,q1,q2,hg]
   · rw[if_neg q]at st
     obtain⟨e',h',L,r1,r2,r3,r4,r5,r6⟩:=B3 s i hs hi v4 c5 n (if b.1<same s i n then(same s i n,i-n)else b) ((D:Int)+1) h (by omega) (by omega) (by rw[st];exact hg) hf
     refine⟨e',h',tX ?_ L,r1,r2,r3,r4,r5,r6⟩
     clear L r3 r4 st
     generalize same s i n=M at *
     generalize (FB b).1=B1 at *
     generalize (FB b).2=B2 at *
     by_cases q1:(3:Int)≤(M:Nat)
     · have q2:¬(B1:Int)<(M:Nat):=by omega
       simp (disch:=omega)only[go_sem,wc,AP.f344L0,BW,Ay,m,c,k1,q1,q2,hg]
     · simp (disch:=omega)only[go_sem,wc,AP.f344L0,BW,Ay,m,c,k1,q1]
theorem Nr (h:H) (s:ByteArray) (i:Nat) (hs:s.size<32000) (hi:i<s.size):aR AP.A 344 [.str s,.int .i64 i] h=some (.agg [.int .i64 0,.int .i64 (FB (xf s i i (0,0))).1,.int .i64 (FB (xf s i i (0,0))).2],h):=by
 obtain⟨g,eg⟩:∃g,g=(h.dQ.alloc [.int .i64 0,.int .i64 0,.int .i64 0]).alloc [.int .i64 0,.int .i64 0,.int .i64 0]:=⟨_,rfl⟩
 obtain⟨e',h',L,r1,r2,r3,r4,r5,r6⟩:=B3 s i hs hi (.aE h.next 0) (h.next+1) i (0,0) 1 g (vB _) (by omega) (by rw[eg,wh (by simp)];try rfl) (by rw[eg];simp;try omega)
 have g4:h'.get h.next=some [.int .i64 0,.int .i64 0,.int .i64 0]:=by rw[r4 _ (by omega),eg,v8 (by simp),wh (by simp)]
 have f1:h'.floor=h.next:=by rw[r6,eg];simp
 generalize (FB (xf s i i (0,0))).1=B1 at *
 generalize (FB (xf s i i (0,0))).2=B2 at *
 have g5:(h'.set h.next [.int .i64 0,.int .i64 B1,.int .i64 B2]).get h.next=some [.int .i64 0,.int .i64 B1,.int .i64 B2]:=by rw[wu rfl,g4];rfl
 refine uL (fn:=AP.f344) (h2:=h'.set h.next [.int .i64 0,.int .i64 B1,.int .i64 B2]) (e:=[(4,.aE h.next 0)]) (vs:=[.agg [.int .i64 0,.int .i64 B1,.int .i64 B2]]) rfl rfl rfl ?_ ?_ rfl
 · have hN:h.dQ.next=h.next:=rfl
   have hN2:(h.dQ.alloc [.int .i64 0,.int .i64 0,.int .i64 0]).next=h.next+1:=by simp
   clear r4
   simp (disch:=omega)only[go_sem,wc,AP.f344,hN,hN2,←eg,sX,L,r1,r2,r3,g4,f1,MN,vH,Wl,VW]
 · simp (disch:=omega)only[go_sem,wc,AP.f344,cu,nM,g5,MN,vH,Wl,VW]
   rfl
theorem JK (h:H) (l:List Int):Rd h (AL (ints l)) (ints l):=by
 unfold AL
 by_cases c:ints l=[]
 · rw[if_pos c,c];exact⟨rfl,by intro s e;cases e⟩
 · rw[if_neg c]
   refine⟨by simp [aS,vP],by intro s e;cases e⟩
theorem Ka (p:List Int) (x:Int) {n:Nat} (hn:1≤n):xM (p++[x]) n=xM p n+if x=(n:Int)then 1 else 0:=by
 rw[A3]
 congr 1
 by_cases c:x=(n:Int)
 · rw[if_pos ⟨by omega,c⟩,if_pos c]
 · rw[if_neg (fun q=>c q.2),if_neg c]
theorem Ec {l : List Int} (hl : l.length < 1000) (T : List AV) (v25 : AV) (id n : Nat) (hn1 : 1 ≤ n) (hn : n ≤ 15) (hT : T[n]? = some (.int .i64 (wk l n))) : ∀ (q p : List Int) (h : H), l = p ++ q → h.floor ≤ id → h.get id = some ((xi l n p.length).flatMap wX) →
 ∃h',Lp AP.A [4,6,7,25,26,30,31,32] AP.f338L0 [(4,.aK T 0),(6,.aF id 0 l.length 2),(7,.int .i64 n),(25,v25),(26,.int .i64 n),(30,AL (ints (syms l n))),(31,.int .i64 (xM l n)),(32,.int .i64 (xM p n))] h=some (.exit 2,[(4,.aK T 0),(6,.aF id 0 l.length 2),(7,.int .i64 n),(25,v25),(26,.int .i64 n),(30,AL (ints (syms l n))),(31,.int .i64 (xM l n)),(32,.int .i64 (xM l n)),(33,.bool false)],h')∧h'.floor=h.floor∧h'.get id=some ((xi l n l.length).flatMap wX)
 | [], p, h, hp, hf, hg => by
   rw[VM]at hp;subst hp
   refine⟨h,tW ?_,rfl,hg⟩
   simp (disch:=omega)only[go_sem,wc,AP.f338L0]
 | y :: q, p, h, hp, hf, hg => by
   have hlen:l.length=p.length+(q.length+1):=by rw[hp];simp
   have hy:l.getD p.length 0=y:=by rw[Vx,hp];simp
   have tk:l.take p.length=p:=by rw[hp];simp
   have ls:=Ka p y hn1
   have sl:(p++[y]).length=p.length+1:=by simp
   by_cases c:y=(n:Int)
   · rw[if_pos c]at ls
     have sa:=JS (l:=l) (s:=p.length) (by omega) hn1 (hy.trans c)
     rw[tk]at sa
     have hit:=E5 (l:=l) (i:=p.length) (by omega) hn1 (hy.trans c)
     rw[tk]at hit
     obtain⟨ad,a1,a2⟩:=(JK h (syms l n)).xj
     have sc:=Bh l n
     have il:xM p n<xM l n:=by have:=(vt.1 sa).1;omega
     have b1:=a1 (xM p n) ⟨by omega,by omega⟩
     have b2:=a2 h (Ext.refl h) (xM p n) _ sa
     have fb:=Ah (l:=l) (by omega) n
     have pw:=Ar hn
     have cl:=AZ l n
     obtain⟨h',L,f1,g1⟩:=Ec hl T v25 id n hn1 hn hT q (p++[y]) (h.set id ((xi l n (p.length+1)).flatMap wX)) (by rw[hp];simp) (by simpa using hf) (by rw[wu rfl,hg,sl];rfl)
     have st:uN h id (p.length* 2) 2 [.int .i64 (n:Int),.int .i64 (wk l n+(xM p n:Int))] (some ((xi l n p.length).flatMap wX))=some (h.set id ((xi l n (p.length+1)).flatMap wX)):=by
      rw[JP,←hit,←IH yG _ _ _ (by rw[Ad];omega)]
      have:=A4 yG (xi l n p.length)
      rw[Ad]at this
      simp only[this,hf,Vy,VC,decide_true,AV.aC,AV.sc,Bool.and_true,Bool.true_and,show p.length* 2+2≤l.length* 2 by omega]
      rfl
     refine⟨h',tX ?_ L,by rw[f1];simp,g1⟩
     rw[ls]
     have n1:((xM p n+1:Nat):Int)=(xM p n:Int)+1:=by omega
     rw[n1]
     have ib:cN (.int .i64 (p.length:Nat)) l.length=some p.length:=by
      have:(p.length:Int)<l.length:=by omega
      simp [cN,n7,this]
     have il':((xM p n:Nat):Int)<(xM l n:Nat):=by omega
     clear L g1 a1 a2 hit sa ls
     generalize (xi l n (p.length+1)).flatMap wX=E2 at *
     generalize (xi l n p.length).flatMap wX=E at *
     generalize AL (ints (syms l n))=SV at *
     generalize wk l n=F at *
     generalize xM p n=k at *
     generalize xM l n=K at *
     simp (disch:=omega)only[go_sem,wc,AP.f338L0,il',b1,b2,hT,ib,hg,st]
   · rw[if_neg c,Nat.add_zero]at ls
     have miss:=DX (l:=l) (b:=n) (i:=p.length) (by rw[hy];exact c)
     obtain⟨h',L,f1,g1⟩:=Ec hl T v25 id n hn1 hn hT q (p++[y]) h (by rw[hp];simp) hf (by rw[sl,miss];exact hg)
     rw[ls]at L
     exact⟨h',L,f1,g1⟩
theorem LM (l:List Int):jg false (AL (ints l))=some (.int .i64 l.length):=by
 have:=(JK (H.empty) l).len
 rw[qg]at this;exact this
theorem Hr {l:List Int} (hl:l.length<1000) (T SS:List AV) (id:Nat) (hT:∀n,1≤n→n≤15→T[n]?=some (.int .i64 (wk l n))) (hS:∀n,n≤15→SS[n]?=some (AL (ints (syms l n)))):∀(m n:Nat) (h:H),n+m=16→1≤n→h.floor≤id→h.get id=some ((xi l n 0).flatMap wX)→
 ∃e' h',Lp AP.A [4,6,25,26] AP.f338L1 [(4,.aK T 0),(6,.aF id 0 l.length 2),(25,.agg SS),(26,.int .i64 n)] h=some (.exit 0,e',h')∧look e' 6=.aF id 0 l.length 2∧h'.floor=h.floor∧h'.get id=some ((xi l 16 0).flatMap wX)
 | 0, n, h, hm, hn, hf, hg => by
   obtain rfl:n=16:=by omega
   refine⟨[(4,.aK T 0),(6,.aF id 0 l.length 2),(25,.agg SS),(26,.int .i64 16),(27,.bool false)],h,tW ?_,rfl,rfl,hg⟩
   simp (disch:=omega)only[go_sem,wc,AP.f338L1]
 | m + 1, n, h, hm, hn, hf, hg => by
   obtain⟨h1,L1,f1,g1⟩:=Ec hl T (.agg SS) id n hn (by omega) (hT n hn (by omega)) l [] h rfl hf hg
   have c0:xM [] n=0:=by simp [xM]
   rw[c0]at L1
   obtain⟨e',h',L,q1,q2,q3⟩:=Hr hl T SS id hT hS m (n+1) h1 (by omega) (by omega) (by omega) (by rw[DY];exact g1)
   refine⟨e',h',tX ?_ L,q1,by rw[q2,f1],q3⟩
   have hs:=hS n (by omega)
   have ln:=LM (syms l n)
   rw[Bh]at ln
   have n1:((n+1:Nat):Int)=(n:Int)+1:=by omega
   have KQ:(n:Int)<16:=by omega
   have ia:mJ false 16 1 (.agg SS) (.int .i64 n)=some (AL (ints (syms l n))):=by
    simp [mJ,cN,n7,KQ,gP,hs]
   have L1':Lp AP.A [4,6,7,25,26,30,31,32] AP.f338L0 [(4,.aK T 0),(6,.aF id 0 l.length 2),(7,.int .i64 n),(25,.agg SS),(26,.int .i64 n),(30,AL (ints (syms l n))),(31,.int .i64 (xM l n)),(32,.int .i64 0)] h=_:=L1
   rw[n1]
   clear L L1 q3 g1 hs
   generalize AL (ints (syms l n))=SV at *
   simp (disch:=omega)only[go_sem,wc,AP.f338L1,KQ,ia,ln,sX,L1']
theorem N7 (h:H) (x:AV) (l:List Int) (hl:l.length<1000) (rd:Rd h x (ints l)) (hm:Ap l=true) (h0:0≤wC l 15):aR AP.A 348 [x] h=some (.bL [wN l,.int .i64 0],h):=by
 have rd':=rd.mono (wo h)
 have k1:=NN h.dQ x l (by omega) rd'
 rw[hm]at k1
 have k2:=A9 h.dQ x l (by omega) (Aq hm) rd'
 have hb:wN l=.aK (nU 49 (xS l)) 0:=rfl
 have g:(nU 49 (xS l))[48]?=some (.int .i64 (wC l 15)):=by rw[fN (by omega)];rfl
 have c:¬wC l 15<0:=by omega
 rw[hb]at k2 ⊢
 generalize nU 49 (xS l)=T at *
 refine uL (fn:=AP.f348) (h2:=h.dQ) (e:=[(2,.aK T 0),(3,.int .i64 0)]) (vs:=[.aK T 0,.int .i64 0]) rfl rfl rfl ?_ rfl rfl
 simp (disch:=omega)only[go_sem,wc,AP.f348,k1,k2,g,c]
theorem Be (h:H) (x:AV) (l:List Int) (h1:1≤l.length) (hl:l.length<1000) (rd:Rd h x (ints l)) (hc:wH l=0∨wH l=302):aR AP.A 338 [x] h=some (.bL [zh l,.int .i64 0],h):=by
 have yO:Rd h.dQ x (ints l):=rd.mono (wo h)
 have hm:Ap l=true:=by
  unfold wH at hc
  by_cases q:Ap l=false
  · rw[if_pos q]at hc;omega
  · simpa using q
 have h0:0≤wC l 15:=by
  unfold wH at hc
  rw[if_neg (by rw[hm];decide)]at hc
  by_cases q:wC l 15<0
  · rw[if_pos q]at hc;omega
  · omega
 have hr:=Aq hm
 have k:=N7 h.dQ x l hl yO hm h0
 obtain⟨g,eg⟩:∃g,g=h.dQ.alloc (yo l.length [.int .i64 0,.int .i64 0]):=⟨_,rfl⟩
 have hn:h.dQ.next=h.next:=rfl
 have gg:g.get h.next=some ((xi l 1 0).flatMap wX):=by rw[eg,wh (by simp),Bg,DZ]
 have gf:g.floor=h.next:=by rw[eg];simp
 have ln:=rd.len
 rw[qg]at ln
 simp only[I]at ln
 obtain⟨T,eT⟩:∃T,T=nU 49 (xS l):=⟨_,rfl⟩
 have hT:∀n,1≤n→n≤15→T[n]?=some (.int .i64 (wk l n)):=fun n _ hn=>by
  rw[eT,fN (by omega),xS,if_pos (by omega)];rfl
 have hS:∀n,n≤15→((T.drop 32).take 16)[n]?=some (AL (ints (syms l n))):=fun n hn=>by
  rw[List.getElem?_take_of_lt (by omega),vL,eT,fN (by omega),xS,if_neg (by omega),if_neg (by omega),if_pos (by omega),show 32+n-32=n by omega]
 have hb:wN l=.aK T 0:=by rw[eT];rfl
 have lT:T.length=49:=by rw[eT];simp [nU]
 rw[hb]at k
 obtain⟨e',h',L,q1,q2,q3⟩:=Hr hl T ((T.drop 32).take 16) h.next hT hS 15 1 g (by omega) (by omega) (by omega) gg
 have L0:∃e',Lp AP.A [4,6,25,26] AP.f338L1 [(4,.aK T 0),(6,.aF h.next 0 l.length 2),(25,.agg ((T.drop 32).take 16)),(26,.int .i64 0)] g=some (.exit 0,e',h')∧look e' 6=.aF h.next 0 l.length 2:=by
  refine⟨e',tX ?_ L,q1⟩
  have hs:=hS 0 (by omega)
  have ia:mJ false 16 1 (.agg ((T.drop 32).take 16)) (.int .i64 0)=some .aP:=by
   have hs':((T.drop 32).take 16)[0]?=some .aP:=by rw[hs];rfl
   show gP false 1 ((T.drop 32).take 16) 0=_
   unfold gP
   rw[if_neg (by decide)]
   exact hs'
  have Li:Lp AP.A [4,6,7,25,26,30,31,32] AP.f338L0 [(4,.aK T 0),(6,.aF h.next 0 l.length 2),(7,.int .i64 0),(25,.agg ((T.drop 32).take 16)),(26,.int .i64 0),(30,.aP),(31,.int .i64 0),(32,.int .i64 0)] g=some (.exit 2,[(4,.aK T 0),(6,.aF h.next 0 l.length 2),(7,.int .i64 0),(25,.agg ((T.drop 32).take 16)),(26,.int .i64 0),(30,.aP),(31,.int .i64 0),(32,.int .i64 0),(33,.bool false)],g):=by
   refine tW ?_
   simp (disch:=omega)only[go_sem,wc,AP.f338L0]
  clear L q3 hs hT hS
  generalize (T.drop 32).take 16=SS at *
  have KQ:(0:Int)<16:=by omega
  simp (disch:=omega)only[go_sem,wc,AP.f338L1,KQ,ia,F7,sX,Li]
 obtain⟨e0,L0,q0⟩:=L0
 rw[E4 hr]at q3
 have ce:(v7 l).length=l.length:=by simp [v7]
 have ow:wM 2 h' (.aF h.next 0 l.length 2) l.length ((v7 l).flatMap wX):=⟨by rw[A4 yG,ce],.inr ⟨h.next,rfl,q3,by omega,by omega⟩⟩
 refine uL (fn:=AP.f338) (h2:=h') (e:=[(2,.aF h.next 0 l.length 2),(3,.int .i64 0)]) (vs:=[.aF h.next 0 l.length 2,.int .i64 0]) rfl rfl rfl ?_ rfl ?_
 · have ld:bP true 16 (.aK T 32) g=some (.agg ((T.drop 32).take 16)):=by
    show gP true 16 T 32=_
    simp [gP,lT]
   clear ow q3 rd yO hr L hT hS gg
   generalize (T.drop 32).take 16=SS at *
   have ld':gP true 16 T 32=some (.agg SS):=ld
   simp (disch:=omega)only[go_sem,wc,AP.f338,k,ln,←eg,hn,ld',sX,L0,q0]
 · have o':=ow
   rw[zJ]at o'
   have s1:=o'.yj (fl:=h.next) (m:=13) (t:=true) (by omega)
   show(fF (snap h'.get h.next 15 true) [.aF h.next 0 l.length 2,.int .i64 0]).bind _=_
   simp only[fF,s1,vu]
   rw[←zJ];rfl
theorem KG (s : ByteArray) (hs : s.size < 32000) : ∀ (f i : Nat) (h : H) (ov : AV) (ts : List Tok), s.size - i ≤ f → i ≤ s.size → ts.length ≤ i → wM 3 h ov ts.length (wG ts) → h.floor ≤ h.next →
 ∃e' h' ov',Lp AP.A [0,4,5] AP.f332L0 [(0,.str s),(4,ov),(5,.int .i64 i)] h=some (.exit 0,e',h')∧look e' 4=ov'∧wM 3 h' ov' (ts++Bj s f i).length (wG (ts++Bj s f i))∧h'.floor=h.floor∧h.next≤h'.next:=by
 have stop:∀(i:Nat) (h:H) (ov:AV),s.size≤i→∃e',Lp AP.A [0,4,5] AP.f332L0 [(0,.str s),(4,ov),(5,.int .i64 i)] h=some (.exit 0,e',h)∧look e' 4=ov:=by
  intro i h ov hi
  refine⟨[(0,.str s),(4,ov),(5,.int .i64 i),(13,.bool false)],tW ?_,rfl⟩
  have c:¬(i:Int)<s.size:=by omega
  simp (disch:=omega)only[go_sem,wc,AP.f332L0,yd,c]
 intro f
 induction f with
 | zero =>
   intro i h ov ts hf hi hts o hfn
   obtain⟨e',r1,r2⟩:=stop i h ov (by omega)
   exact⟨e',h,ov,r1,r2,by simpa [Bj]using o,rfl,vB _⟩
 | succ f ih =>
   intro i h ov ts hf hi hts o hfn
   by_cases c0:i<s.size
   · have kb:=fun g=>Nr g s i hs c0
     have hb:=DU s i
     have lt:=Iq s i
     have le:=Ip s i c0
     have bsp:=BI s i (by omega) i (0,0) (vB _) (.inl rfl)
     have hx:=Br (s:=s) (i:=(i:Int)) ⟨by omega,by omega⟩
     rw[show((i:Int)).toNat=i by omega]at hx
     have c0':(i:Int)<s.size:=by omega
     have fin:∀(g:H) (t:Tok) (i':Nat),xQ s i=(t,i')→g.floor=h.floor→g.next=h.next+1→(∀j,j<h.next→g.get j=h.get j)→(∀(v':AV) (h':H),kS (g.alloc (Is t)) 3 24 ov (.aF g.next 0 1 3)=some (v',h')→h'.get h.next=g.get h.next→aL (aR AP.A) bp AP.f332L0 (ay [(0,.str s),(4,ov),(5,.int .i64 i)] [0,4,5]) h=some (.normal,[(0,.str s),(4,v'),(5,.int .i64 i')],h'))→
      ∃e' h' ov',Lp AP.A [0,4,5] AP.f332L0 [(0,.str s),(4,ov),(5,.int .i64 i)] h=some (.exit 0,e',h')∧look e' 4=ov'∧wM 3 h' ov' (ts++Bj s (f+1) i).length (wG (ts++Bj s (f+1) i))∧h'.floor=h.floor∧h.next≤h'.next:=by
      intro g t i' et gf gn gk hstep
      have og:wM 3 g ov ts.length (wG ts):=o.mono gf fun j hj=>gk j (o.lt hj).2
      obtain⟨v',h',p1,p2,p3,p4,p5,p6⟩:=og.push (by omega) (z:=24) (m:=1) (by omega) (by omega) (Is t) rfl rfl (by simp [roomy];omega)
      have hon:ov.id?≠some h.next:=fun q=>by have:=(o.lt q).2;omega
      have step:=hstep v' h' p1 (p5 h.next hon (by omega))
      rw[et]at lt le
      simp only at lt le
      have o2:wM 3 h' v' (ts++[t]).length (wG (ts++[t])):=by rw[Jb,vV];exact p2
      obtain⟨e',h2,ov',r1,r2,r3,r4,r5⟩:=ih i' h' v' (ts++[t]) (by omega) le (by simp;omega) o2 (by omega)
      refine⟨e',h2,ov',tX step r1,r2, ?_,by omega,by omega⟩
      rw[Bj,if_pos c0,et]
      simpa using r3
     by_cases c1:(xf s i i (0,0)).1<3
     · have et:xQ s i=(⟨zg s i,0,0⟩,i+1):=if_pos c1
       have e1:FB (xf s i i (0,0))=(0,0):=if_pos c1
       rw[e1]at kb
       obtain⟨g,eg⟩:∃g,g=((h.alloc [.int .i64 0,.int .i64 0,.int .i64 0]).set h.next [.int .i64 0,.int .i64 0,.int .i64 0]).set h.next [.int .i64 (zg s i:Nat),.int .i64 0,.int .i64 0]:=⟨_,rfl⟩
       have gg0:g.get h.next=some [.int .i64 (zg s i:Nat),.int .i64 0,.int .i64 0]:=by rw[eg,wu rfl,wu rfl,wh rfl];rfl
       refine fin g _ _ et (by rw[eg];simp) (by rw[eg];simp) (fun j hj=>by rw[eg,vX (by omega),vX (by omega),v8 (by omega)]) fun v' h' ap gh=> ?_
       rw[gg0]at gh
       simp only[Is,NA,ints,VK,Wk,I]at ap
       have n1:((i+1:Nat):Int)=(i:Int)+1:=by omega
       have m1:CW 1 0=1:=rfl
       have kb':∀g:H,aR AP.A 344 [.str s,.int .i64 i] g=some (.agg [.int .i64 0,.int .i64 0,.int .i64 0],g):=kb
       have w8:IntKind.wrap .i64 ((zg s i:Nat):Int)=((zg s i:Nat):Int):=wi (by omega)
       have cz:((0:Int)==0)=true:=by decide
       rw[n1]
       clear kb ih o bsp fin lt le
       generalize ((zg s i:Nat):Int)=Y at *
       simp (disch:=first|omega|(simp only[wY,Vy,VC,vF,Nat.reduceAdd];first|done|omega|fail)|(simp (disch:=first|omega|(simp only[wY,Vy,VC,vF,Nat.reduceAdd];first|done|omega|fail)|fail)only[wY,zX,VG,Vy,VC,vF,Nat.reduceAdd];done)|fail)only[go_sem,wc,zW,]at ap
       simp (disch:=first|omega|(simp only[wY,Vy,VC,vF,Nat.reduceAdd,gg0];first|done|omega|fail)|(simp (disch:=first|omega|(simp only[wY,Vy,VC,vF,Nat.reduceAdd,gg0];first|done|omega|fail)|fail)only[wY,zX,VG,Vy,VC,vF,Nat.reduceAdd,gg0];done)|fail)only[go_sem,wc,zW,AP.f332L0,yd,c0',kb',hx,Gq,DB,m1,cz,w8,←eg,gg0,ap,gh]
     · have et:xQ s i=(⟨0,(xf s i i (0,0)).1,(xf s i i (0,0)).2⟩,i+(xf s i i (0,0)).1):=if_neg c1
       have e1:FB (xf s i i (0,0))=xf s i i (0,0):=if_neg c1
       rw[e1]at kb
       have b258:(xf s i i (0,0)).1≤258:=by
        rcases bsp with q|q
        · omega
        · exact q.1
       obtain⟨g,eg⟩:∃g,g=(h.alloc [.int .i64 0,.int .i64 0,.int .i64 0]).set h.next [.int .i64 0,.int .i64 (xf s i i (0,0)).1,.int .i64 (xf s i i (0,0)).2]:=⟨_,rfl⟩
       have gg0:g.get h.next=some [.int .i64 0,.int .i64 (xf s i i (0,0)).1,.int .i64 (xf s i i (0,0)).2]:=by rw[eg,wu rfl,wh rfl];rfl
       refine fin g _ _ et (by rw[eg];simp) (by rw[eg];simp) (fun j hj=>by rw[eg,vX (by omega),v8 (by omega)]) fun v' h' ap gh=> ?_
       rw[gg0]at gh
       simp only[Is,NA,ints,VK,Wk,I]at ap
       have n1:((i+(xf s i i (0,0)).1:Nat):Int)=(i:Int)+((xf s i i (0,0)).1:Nat):=by omega
       have m1:CW 1 ((xf s i i (0,0)).1:Int)=((xf s i i (0,0)).1:Int):=by unfold CW;split<;>omega
       have cb:(((xf s i i (0,0)).1:Int)==0)=false:=by simp;omega
       rw[n1]
       clear ih o bsp et e1 hx fin lt le
       generalize (xf s i i (0,0)).1=B1 at *
       generalize (xf s i i (0,0)).2=B2 at *
       simp (disch:=first|omega|(simp only[wY,Vy,VC,vF,Nat.reduceAdd];first|done|omega|fail)|(simp (disch:=first|omega|(simp only[wY,Vy,VC,vF,Nat.reduceAdd];first|done|omega|fail)|fail)only[wY,zX,VG,Vy,VC,vF,Nat.reduceAdd];done)|fail)only[go_sem,wc,zW,]at ap
       simp (disch:=first|omega|(simp only[wY,Vy,VC,vF,Nat.reduceAdd,gg0];first|done|omega|fail)|(simp (disch:=first|omega|(simp only[wY,Vy,VC,vF,Nat.reduceAdd,gg0];first|done|omega|fail)|fail)only[wY,zX,VG,Vy,VC,vF,Nat.reduceAdd,gg0];done)|fail)only[go_sem,wc,zW,AP.f332L0,yd,c0',kb,cb,Gq,DB,m1,←eg,gg0,ap,gh]
   · obtain⟨e',r1,r2⟩:=stop i h ov (by omega)
     exact⟨e',h,ov,r1,r2,by simpa [Bj,c0]using o,rfl,vB _⟩
theorem KI (h:H) (s:ByteArray):aR AP.A 332 [.str s] h=some (if 300<s.size then .bL [.aP,.int .i64 500]else .bL [EM (tokens s),.int .i64 0],h):=by
 by_cases c:300<s.size
 · rw[if_pos c]
   refine uL (fn:=AP.f332) (h2:=h.dQ) (e:=[(2,.aP),(3,.int .i64 500)]) (vs:=[.aP,.int .i64 500]) rfl rfl rfl ?_ rfl rfl
   have c':(300:Int)<s.size:=by omega
   simp (disch:=omega)only[go_sem,wc,AP.f332,yd,c']
 · rw[if_neg c]
   obtain⟨e',h',ov',r1,r2,r3,r4,r5⟩:=KG s (by omega) s.size 0 h.dQ .aP [] (by omega) (by omega) (by simp) wM.nil (by simp)
   have r1':Lp AP.A [0,4,5] AP.f332L0 [(0,.str s),(4,.aP),(5,.int .i64 0)] h.dQ=some (.exit 0,e',h'):=r1
   clear r1
   rw[Wd]at r3
   refine uL (fn:=AP.f332) (h2:=h') (e:=[(2,ov'),(3,.int .i64 0)]) (vs:=[ov',.int .i64 0]) rfl rfl rfl ?_ rfl ?_
   · have c':¬(300:Int)<s.size:=by omega
     simp (disch:=omega)only[go_sem,wc,AP.f332,yd,c',sX,r1',r2]
   · have o':=r3
     rw[AH]at o'
     have s1:=o'.yj (fl:=h.next) (m:=13) (t:=true) (by rw[r4];simp)
     show(fF (snap h'.get h.next 15 true) [ov',.int .i64 0]).bind _=_
     simp only[fF,s1,vu]
     rw[←AH];rfl
theorem HO {P:List Nat} {i b:Nat} (h:i%8=0) (hl:P.length=i/8):w9 P i b=P++[b]:=by
 unfold w9
 rw[if_pos h]
 dsimp only
 rw[←hl,h]
 rw[Vx,VL (vB _),Wo]
 rw[V9 _ _ (vB _),Wo]
 simp
theorem Gt {P:List Nat} {a i b:Nat} (h:¬i%8=0) (hl:P.length=i/8):w9 (P++[a]) i b=P++[a|||b* 2^(i%8)]:=by
 unfold w9
 rw[if_neg h]
 dsimp only
 rw[←hl]
 rw[Vx,VL (vB _),Wo]
 rw[V9 _ _ (vB _),Wo]
 simp
theorem U3:∀b,b<256→b/2^0%2|||b/2^1%2* 2^1|||b/2^2%2* 2^2|||b/2^3%2* 2^3|||b/2^4%2* 2^4|||b/2^5%2* 2^5|||b/2^6%2* 2^6|||b/2^7%2* 2^7=b:=by decide+kernel
theorem IX {bs:List Nat} (h:bs.length%8=0) {b:Nat} (hb:b<256):wJ (bs++wA b 8)=wJ bs++[b]:=by
 have pl:=yF bs
 have e:wJ (bs++wA b 8)=yc (wA b 8) bs.length (wJ bs):=by
  unfold wJ;rw[BX,vF]
 rw[e]
 obtain⟨n,hn⟩:∃n,n=bs.length:=⟨_,rfl⟩
 rw[←hn]at h pl ⊢
 generalize wJ bs=P at *
 have lP:P.length=n/8:=by omega
 show yc [b/2^0%2,b/2^1%2,b/2^2%2,b/2^3%2,b/2^4%2,b/2^5%2,b/2^6%2,b/2^7%2] n P=_
 have m:∀k,1≤k→k<8→(n+k)%8=k∧P.length=(n+k)/8:=fun k h1 h2=>by omega
 simp only[yc]
 rw[HO h lP]
 have st:∀k a c,1≤k→k<8→w9 (P++[a]) (n+k) c=P++[a|||c* 2^k]:=fun k a c h1 h2=>by
  obtain⟨m1,m2⟩:=m k h1 h2
  rw[Gt (by omega) m2,m1]
 rw[st 1 _ _ (by omega) (by omega)]
 rw[show n+1+1=n+2 by omega,st 2 _ _ (by omega) (by omega)]
 rw[show n+2+1=n+3 by omega,st 3 _ _ (by omega) (by omega)]
 rw[show n+3+1=n+4 by omega,st 4 _ _ (by omega) (by omega)]
 rw[show n+4+1=n+5 by omega,st 5 _ _ (by omega) (by omega)]
 rw[show n+5+1=n+6 by omega,st 6 _ _ (by omega) (by omega)]
 rw[show n+6+1=n+7 by omega,st 7 _ _ (by omega) (by omega)]
 rw[U3 b hb]
def zq (s:ByteArray) (i:Nat):List Nat:=(List.range i).flatMap fun k=>wA (zg s k) 8
theorem Ch (s:ByteArray) (i:Nat):zq s (i+1)=zq s i++wA (zg s i) 8:=by simp [zq,List.range_succ]
theorem De (s:ByteArray):∀i,(zq s i).length=8* i
 |0=>rfl
 |i+1=>by rw[Ch,vV,De s i];simp [wA,wE];omega
theorem Ds (bs:List Nat) (h:bs.length%8=0) (s:ByteArray):∀i,wJ (bs++zq s i)=wJ bs++preB s i
 |0=>by simp [zq,preB]
 | i + 1 => by
   rw[Ch,←VH,IX (by rw[vV,De];omega) (DU s i),Ds bs h s i,CY,VH]
theorem G4 (s:ByteArray):bytesOf (preB s s.size)=s:=by
 apply ByteArray.ext
 apply Array.ext
 · have:=xC (preB s s.size)
   rw[zK]at this
   exact this
 · intro i h1 h2
   simp only[bytesOf,preB,List.map_map,List.getElem_toArray,List.getElem_map,List.getElem_range,Function.comp_apply]
   have hi:i<s.size:=h2
   unfold zg
   rw[show s[i]?=some s[i]by simp [hi]]
   simp
   rfl
theorem DV (a b:List Nat):bytesOf (a++b)=bytesOf a++bytesOf b:=by
 apply ByteArray.ext
 simp [bytesOf,ByteArray.data_append]
theorem Ie (s:ByteArray):bytesOf (wJ (xe s.size++zq s s.size))=xX s:=by
 have l:(xe s.size).length=40:=by simp [xe,wA,wE]
 rw[Ds _ (by omega),DV,G4];rfl
theorem JQ (s:ByteArray) (hs:s.size≤300) (h0:H) (w:Nat):∀(m i:Nat) (bs:List Nat) (h:H) (ov:AV),i+m=s.size→WX h0 h w bs ov→bs.length+8* m≤60000→
 ∃h' ov',Lp AP.A [0,4,5,25,26] AP.f325L0 [(0,.str s),(4,.aE w 0),(5,.fn 335 [.aE w 0] []),(25,.int .i64 s.size),(26,.int .i64 i)] h=some (.exit 0,[(0,.str s),(4,.aE w 0),(5,.fn 335 [.aE w 0] []),(25,.int .i64 s.size),(26,.int .i64 s.size),(27,.bool false)],h')∧WX h0 h' w (bs++((List.range' i m).flatMap fun k=>wA (zg s k) 8)) ov'
 | 0, i, bs, h, ov, hi, x, hb => by
   obtain rfl:i=s.size:=by omega
   refine⟨h,ov,tW ?_,by simpa using x⟩
   simp (disch:=omega)only[go_sem,wc,AP.f325L0]
 | m + 1, i, bs, h, ov, hi, x, hb => by
   have bl:=DU s i
   obtain⟨h1,o1,k1,w1,f1⟩:=zk x.wr (zg s i) 8 (by omega) (by omega) (by omega)
   obtain⟨h',ov',L,x2⟩:=JQ s hs h0 w m (i+1) (bs++wA (zg s i) 8) h1 o1 (by omega) (x.step w1 f1) (by simp [wA,wE];omega)
   refine⟨h',ov',tX ?_ L,by rw[List.range'_succ,VJ,←VH];exact x2⟩
   have hx:=Br (s:=s) (i:=(i:Int)) ⟨by omega,by omega⟩
   rw[show((i:Int)).toNat=i by omega]at hx
   have c0:(i:Int)<s.size:=by omega
   have w8:IntKind.wrap .i64 ((zg s i:Nat):Int)=((zg s i:Nat):Int):=wi (by omega)
   have k1':aR AP.A 335 [.aE w 0,.int .i64 (zg s i:Nat),.int .i64 8] h=some (.int .i64 0,h1):=k1
   have n1:((i+1:Nat):Int)=(i:Int)+1:=by omega
   rw[n1]
   clear x x2 L w1 f1 k1
   generalize ((zg s i:Nat):Int)=Y at *
   simp (disch:=omega)only[go_sem,wc,AP.f325L0,c0,hx,w8,k1']
theorem NC:∀n:Nat,n≤300→bits .xor .i64 (n:Int) 65535=65535-(n:Int):=by
 intro n hn
 have:∀n:Nat,n<301→decide (bits .xor .i64 ((n:Nat):Int) 65535=65535-((n:Nat):Int))=true:=by decide+kernel
 exact of_decide_eq_true (this n (by omega))
theorem CZ (h:H) (s:ByteArray):aR AP.A 325 [.str s] h=some (if 300<s.size then .bL [.str ⟨#[]⟩,.int .i64 800]else .bL [.str (xX s),.int .i64 0],h):=by
 by_cases c:300<s.size
 · rw[if_pos c]
   have c':(300:Int)<s.size:=by omega
   refine uL (fn:=AP.f325) (h2:=h.dQ) (e:=[(2,.str ⟨#[]⟩),(3,.int .i64 800)]) (vs:=[.str ⟨#[]⟩,.int .i64 800]) rfl rfl rfl ?_ rfl rfl
   simp (disch:=omega)only[go_sem,wc,AP.f325,yd,c']
 · rw[if_neg c]
   obtain⟨h1,o1,k1,x1,f1⟩:=Jg (h:=h.dQ) rfl 0 (by omega)
   have e0:wA 1 1++wA 0 2=wA 1 3:=by decide
   rw[e0]at x1
   obtain⟨h2,k2,w2,r2⟩:=Ma x1.wr 5 (by simp [wA,wE]) (by omega) (by simp [wA,wE])
   have x2:=x1.step w2 r2
   obtain⟨h3,o3,k3,w3,r3⟩:=zk x2.wr s.size 16 (by omega) (by omega) (by simp [wA,wE])
   have x3:=x2.step w3 r3
   obtain⟨h4,o4,k4,w4,r4⟩:=zk x3.wr (65535-s.size) 16 (by omega) (by omega) (by simp [wA,wE])
   have x4:=x3.step w4 r4
   have ee:wA 1 3++List.replicate 5 0++wA s.size 16++wA (65535-s.size) 16=xe s.size:=by unfold xe;simp only[VH]
   rw[ee]at x4
   obtain⟨h5,o5,L,x5⟩:=JQ s (by omega) h.dQ h.dQ.next s.size 0 _ h4 o4 (by omega) x4 (by simp [xe,wA,wE];omega)
   have eb:xe s.size++((List.range' 0 s.size).flatMap fun k=>wA (zg s k) 8)=xe s.size++zq s s.size:=by unfold zq;rw[List.range_eq_range']
   rw[eb]at x5
   have k6:=JI x5.wr
   rw[Ie s]at k6
   have hN:h.dQ.next=h.next:=rfl
   rw[hN]at k1 k2 k3 k4 L k6
   have c':¬(300:Int)<s.size:=by omega
   have k1':aR AP.A 333 [.int .i64 0] h.dQ=some (.aE h.next 0,h1):=k1
   have k3':aR AP.A 335 [.aE h.next 0,.int .i64 s.size,.int .i64 16] h2=some (.int .i64 0,h3):=k3
   have xo:=NC s.size (by omega)
   have e4:((65535-s.size:Nat):Int)=65535-(s.size:Int):=by omega
   rw[e4]at k4
   have k4':aR AP.A 335 [.aE h.next 0,.int .i64 (65535-(s.size:Int)),.int .i64 16] h3=some (.int .i64 0,h4):=k4
   have L':Lp AP.A [0,4,5,25,26] AP.f325L0 [(0,.str s),(4,.aE h.next 0),(5,.fn 335 [.aE h.next 0] []),(25,.int .i64 s.size),(26,.int .i64 0)] h4=_:=L
   refine uL (fn:=AP.f325) (h2:=h5) (e:=[(2,.str (xX s)),(3,.int .i64 0)]) (vs:=[.str (xX s),.int .i64 0]) rfl rfl rfl ?_ rfl rfl
   clear x1 x2 x3 x4 x5 w2 w3 w4 r2 r3 r4 L k1 k3 k4 ee eb e0
   generalize xX s=TT at *
   generalize 65535-(s.size:Int)=Z at *
   simp (disch:=omega)only[go_sem,wc,AP.f325,yd,c',k1',k2,k3',xo,k4',sX,L',k6]
theorem Cs (W : List Int) (F : List Bool) : ∀ (m i : Nat) (a : Int), (a = -1 ∧ (∀ j, j < i → F.getD j false = false)) ∨ (∃ k : Nat, a = k ∧ k < i ∧ F.getD k false = true ∧ (∀ j, j < i → F.getD j false = true → W.getD k 0 ≤ W.getD j 0) ∧ ∀ j, j < k → F.getD j false = true → W.getD k 0 < W.getD j 0) →
 (xq W F m i a= -1)∨(∃k:Nat,xq W F m i a=k∧∀j,j<k→F.getD j false=true→W.getD k 0<W.getD j 0)
 | 0, i, a, h => by
   rcases h with ⟨h,_⟩|⟨k,h,_,_,_,h2⟩
   · exact .inl h
   · exact .inr ⟨k,h,h2⟩
 | m + 1, i, a, h => by
   rw[xq]
   refine Cs W F m (i+1) _ ?_
   by_cases c:F.getD i false=true∧(a<0∨W.getD i 0<W.getD a.toNat 0)
   · rw [if_pos c]
     refine .inr ⟨i,rfl,by omega,c.1,fun j hj hf=> ?_,fun j hj hf=> ?_⟩
     · by_cases q:j=i
       · subst q;exact Wi _
       · rcases h with ⟨_,h2⟩|⟨k,rfl,h1,h2,h3,h4⟩
         · rw[h2 j (by omega)]at hf;cases hf
         · have:=h3 j (by omega) hf
           have tk:((k:Nat):Int).toNat=k:=by omega
           rw[tk]at c
           have:=c.2
           omega
     · rcases h with ⟨_,h2⟩|⟨k,rfl,h1,h2,h3,h4⟩
       · rw[h2 j (by omega)]at hf;cases hf
       · have:=h3 j (by omega) hf
         have tk:((k:Nat):Int).toNat=k:=by omega
         rw[tk]at c
         have:=c.2
         omega
   · rw [if_neg c]
     rcases h with ⟨rfl,h2⟩|⟨k,rfl,h1,h2,h3,h4⟩
     · refine .inl ⟨rfl,fun j hj=> ?_⟩
       by_cases q:j=i
       · subst q
         cases e:F.getD j false with
         |false=>rfl
         |true=>exact absurd ⟨e,.inl (by omega)⟩ c
       · exact h2 j (by omega)
     · refine .inr ⟨k,rfl,by omega,h2,fun j hj hf=> ?_,h4⟩
       by_cases q:j=i
       · subst q
         have tk:((k:Nat):Int).toNat=k:=by omega
         rw[tk]at c
         have:¬(W.getD j 0<W.getD k 0):=fun x=>c ⟨hf,.inr x⟩
         omega
       · exact h3 j (by omega) hf
theorem HC {W:List Int} {F:List Bool} (h:0≤xq W F W.length 0 (-1)):∀j,j<wZ W F→F.getD j false=true→W.getD (wZ W F) 0<W.getD j 0:=by
 rcases Cs W F W.length 0 (-1) (.inl ⟨rfl,fun j hj=>by omega⟩)with q|⟨k,q,r⟩
 · omega
 · have ek:wZ W F=k:=by unfold wZ;rw[q];omega
   rw[ek];exact r
structure Tz where
 w:Int
 m:Int
 L:List Int
def MM (n N:Nat) (S:List Int) (r:Nat):Int:=if r<n then S.getD r 0 else(N:Int)+(r-n:Nat)
def yi (rc:Nat→Tz) (t:Nat):Int:=(rc t).w* 1000000+(rc t).m
def CQ:List Int→List Int→List Int
 |O,[]=>O
 |O,s::r=>CQ (xy O s.toNat) r
theorem Eh:∀(L O:List Int),(CQ O L).length=O.length
 |[],O=>rfl
 |s::r,O=>by rw[CQ,Eh r,yf]
theorem Qm (O:List Int) (i q:Nat) (hi:i<O.length):(xy O i).getD q 0=O.getD q 0+if i=q then 1 else 0:=by
 unfold xy
 rw[Vx,VV]
 by_cases c:i=q
 · subst c;rw[if_pos rfl,if_pos hi,if_pos rfl];rfl
 · rw[if_neg c,if_neg c,Vx];omega
theorem Gh:∀(L O:List Int) (q:Nat),(∀s∈L,s.toNat<O.length)→(CQ O L).getD q 0=O.getD q 0+(L.map Int.toNat).count q
 |[],O,q,h=>by simp [CQ]
 | s :: r, O, q, h => by
   rw[CQ,Gh r _ q (fun t ht=>by rw[yf];exact h t (by simp [ht])),Qm _ _ _ (h s (by simp)),VK,List.count_cons]
   by_cases c:s.toNat=q
   · subst c;simp;omega
   · simp [c]
structure Cc (n N:Nat) (S:List Int):Prop where
 len:S.length=n
 Nu:∀s∈S,0≤s∧s<N
 inc:∀i j,i<j→j<n→S.getD i 0<S.getD j 0
 nd:(S.map Int.toNat).Nodup
theorem Cc.at {n N:Nat} {S:List Int} (o:Cc n N S) {i:Nat} (h:i<n):0≤S.getD i 0∧S.getD i 0<N:=by
 refine o.Nu _ ?_
 rw[Vx,Vz (by rw[o.len];exact h)]
 exact VP _
theorem Cc.inj {n N:Nat} {S:List Int} (o:Cc n N S) {i j:Nat} (hi:i<n) (hj:j<n) (h:S.getD i 0=S.getD j 0):i=j:=by
 rcases Nat.lt_trichotomy i j with q|q|q
 · have:=o.inc i j q hj;omega
 · exact q
 · have:=o.inc j i q hi;omega
theorem Qs {n N:Nat} {S:List Int} (o:Cc n N S) {r q:Nat} (h:r<q):MM n N S r<MM n N S q:=by
 unfold MM
 by_cases c:q<n
 · rw[if_pos (by omega),if_pos c];exact o.inc r q h c
 · rw[if_neg c]
   split
   · rename_i a;have:=o.at a;omega
   · omega
structure GQ (n N:Nat) (tot:Int) (S:List Int) (G s:FS) (rc:Nat→Tz) (tr:Nat→Tr) (l:List Nat) (O:List Int):Prop where
 hv:z4 false n tot s (l.map tr)
 lw:s.W.length+l.length=2* n
 ll:l.length≤n
 fin:FS.yH (l.length-1) s=G
 so:Cc n N S
 rel:∀t∈l,(rc t).w=s.W.getD (tr t).1 0∧(rc t).m=MM n N S (tr t).1∧(rc t).L=(tr t).2.map fun p=>S.getD p.1 0
 out:∀t∈l,∀p∈(tr t).2,O.getD (S.getD p.1 0).toNat 0=((p.2:Nat):Int)
 zero:∀q,(∀s∈S,s.toNat≠q)→O.getD q 0=0
 len:O.length=N
theorem GQ.perm {n N:Nat} {tot:Int} {S:List Int} {G s:FS} {rc:Nat→Tz} {tr:Nat→Tr} {l l':List Nat} {O:List Int} (v:GQ n N tot S G s rc tr l O) (p:l.Perm l'):GQ n N tot S G s rc tr l' O where
 hv:=v.hv.perm (p.map tr)
 lw:=by rw[←p.length_eq];exact v.lw
 ll:=by rw[←p.length_eq];exact v.ll
 fin:=by rw[←p.length_eq];exact v.fin
 so:=v.so
 rel t h:=v.rel t (p.mem_iff.2 h)
 out t h:=v.out t (p.mem_iff.2 h)
 zero:=v.zero
 len:=v.len
theorem HD {n N:Nat} {S W:List Int} {F:List Bool} (so:Cc n N S) (hl:F.length=W.length) (hW:W.length<2* n) (hn:n≤1000) (hN:N≤1000) {rc:Nat→Tz} {tr:Nat→Tr} {l:List Nat} (hf:∀i,F.getD i false=true→∃t∈l,(tr t).1=i) (ht:∀t∈l,F.getD (tr t).1 false=true) (rel:∀t∈l,(rc t).w=W.getD (tr t).1 0∧(rc t).m=MM n N S (tr t).1) {t0:Nat} (h0:t0∈l) (hm:∀t∈l,yi rc t0≤yi rc t):
 (tr t0).1=wZ W F∧0≤xq W F W.length 0 (-1)∧∀t∈l,W.getD (tr t0).1 0≤W.getD (tr t).1 0:=by
 obtain⟨l1,la,fa,ma⟩:=BT hl (ht t0 h0)
 obtain⟨ta,hta,ea⟩:=hf _ fa
 have fi:=HC l1
 have mr:∀t∈l,0≤(rc t).m∧(rc t).m<1000000:=fun t h=>by
  rw[(rel t h).2]
  have lt:(tr t).1<W.length:=by
   have:=ht t h
   rw[Vx]at this
   cases e:F[(tr t).1]? with
   |none=>rw[e]at this;cases this
   |some b=>have:=(vt.1 e).1;omega
  unfold MM
  split
  · rename_i a;have:=so.at a;omega
  · omega
 have m1:=hm ta hta
 have w0:=ma (tr t0).1 (ht t0 h0)
 have r0:=rel t0 h0
 have ra:=rel ta hta
 have q0:=mr t0 h0
 have qa:=mr ta hta
 unfold yi at m1
 have ew:W.getD (tr t0).1 0=W.getD (wZ W F) 0:=by rw[←ea]at w0 ⊢;rw[r0.1,ra.1]at m1;omega
 have em:(rc t0).m≤(rc ta).m:=by rw[r0.1,ra.1,ea,ew]at m1;omega
 have e1:(tr t0).1=wZ W F:=by
  rcases Nat.lt_trichotomy (tr t0).1 (wZ W F)with q|q|q
  · have:=fi _ q (ht t0 h0);omega
  · exact q
  · rw[←ea]at q
    have:=Qs so q
    rw[r0.2,ra.2]at em;omega
 refine⟨e1,l1,fun t h=> ?_⟩
 rw[ew];exact ma _ (ht t h)
theorem GQ.step {n N : Nat} {tot : Int} {S : List Int} {G s : FS} {rc rc' : Nat → Tz} {tr : Nat → Tr} {l2 : List Nat} {O : List Int} {a b t : Nat} (v : GQ n N tot S G s rc tr (a :: b :: l2) O) (hn : n ≤ 1000) (hN : N ≤ 1000) (ht : tot < 1000000000000000)
 (ha:∀t∈b::l2,yi rc a≤yi rc t) (hb:∀t∈l2,yi rc b≤yi rc t) (fr:∀x∈l2,x≠t) (er:∀x∈l2,rc' x=rc x)
 (et:rc' t=⟨(rc a).w+(rc b).w,((N+(n-(l2.length+2)):Nat):Int),(rc a).L++(rc b).L⟩):
 GQ n N tot S G s.ET rc' (fun x=>if x=t then(s.U.length,yK ((tr a).2++(tr b).2))else tr x) (t::l2) (CQ O ((rc a).L++(rc b).L))∧(∀q∈(rc a).L++(rc b).L,0≤q∧q<N)∧((rc a).L++(rc b).L).length≤n∧0<((rc a).L++(rc b).L).length:=by
 have lw:=v.lw
 have ll:=v.ll
 simp only[Vy]at lw ll
 obtain⟨ea,l1,mA⟩:=HD (F:=s.F) (W:=s.W) v.so v.hv.lf (by omega) hn hN (tr:=tr) (rc:=rc) (l:=a::b::l2) (fun i hi=>by
  obtain⟨x,hx,e⟩:=v.hv.free i hi
  obtain⟨y,hy,rfl⟩:=VN.1 hx
  exact⟨y,hy,e⟩) (fun x hx=>(v.hv.root _ (VN.2 ⟨x,hx,rfl⟩)).1) (fun x hx=>⟨(v.rel x hx).1,(v.rel x hx).2.1⟩) (t0:=a) (by simp) (fun x hx=>by
   rcases vR.1 hx with q|q
   · subst q;exact Wi _
   · exact ha x q)
 have nd:=v.hv.nd
 simp only[VK,Wm,vR,not_or]at nd
 obtain⟨⟨nab,na⟩,nb,n2⟩:=nd
 have naL:∀x∈b::l2,(tr x).1≠s.a:=fun x hx e=>by
  have e':(tr x).1=(tr a).1:=by rw[e,ea];rfl
  rcases vR.1 hx with q|q
  · subst q;exact nab e'.symm
  · exact na (VN.2 ⟨tr x,VN.2 ⟨x,q,rfl⟩,e'⟩)
 obtain⟨eb,l2',mB⟩:=HD (F:=s.F1) (W:=s.W) v.so (by show(s.F.set s.a false).length=_;rw[VT];exact v.hv.lf) (by omega) hn hN (tr:=tr) (rc:=rc) (l:=b::l2) (fun i hi=>by
  have hne:s.a≠i:=fun e=>by
   subst e
   have:(s.F.set s.a false).getD s.a false=true:=hi
   rw[AB]at this;cases this
  have hi':s.F.getD i false=true:=by
   have:(s.F.set s.a false).getD i false=true:=hi
   rwa [getD_set_ne hne]at this
  obtain⟨x,hx,e⟩:=v.hv.free i hi'
  obtain⟨y,hy,rfl⟩:=VN.1 hx
  rcases vR.1 hy with q|q
  · subst q;exact absurd (ea.symm.trans e) hne
  · exact⟨y,q,e⟩) (fun x hx=>by
    show(s.F.set s.a false).getD (tr x).1 false=true
    rw[getD_set_ne (fun e=>naL x hx e.symm)]
    exact(v.hv.root _ (VN.2 ⟨x,by simp only[vR]at hx ⊢;exact .inr hx,rfl⟩)).1) (fun x hx=>by
     have hx':x∈a::b::l2:=Wb _ hx
     exact⟨(v.rel x hx').1,(v.rel x hx').2.1⟩) (t0:=b) (by simp) (fun x hx=>by
    rcases vR.1 hx with q|q
    · subst q;exact Wi _
    · exact hb x q)
 have ea':(tr a).1=s.a:=ea
 have eb':(tr b).1=s.b:=eb
 obtain⟨ok,hv⟩:=v.hv.Mw (T2:=l2.map tr) (ta:=tr a) (tb:=tr b) (Wh _) ea' eb' l1 l2' (by have:=mA b (by simp);rw[ea',eb']at this;exact this) (fun x hx=>by
  obtain⟨y,hy,rfl⟩:=VN.1 hx
  have:=mB y (by simp [hy]);rw[eb']at this;exact this) ht
 have tm:∀x∈l2,(if x=t then((s.U.length,yK ((tr a).2++(tr b).2)):Tr)else tr x)=tr x:=fun x hx=>if_neg (fr x hx)
 have em:(t::l2).map (fun x=>if x=t then((s.U.length,yK ((tr a).2++(tr b).2)):Tr)else tr x)=(s.U.length,yK ((tr a).2++(tr b).2))::l2.map tr:=by
  rw[VK,if_pos rfl]
  congr 1
  exact V7 tm
 have lv:=v.hv.leaves
 have lnd:(((a::b::l2).map tr).flatMap fun t=>t.2.map (·.1)).Nodup:=lv.nodup_iff.2 List.nodup_range
 have llt:∀x∈a::b::l2,∀p∈(tr x).2,p.1<n:=fun x hx p hp=>List.mem_range.1 (lv.mem_iff.1 (List.mem_flatMap.2 ⟨tr x,VN.2 ⟨x,hx,rfl⟩,VN.2 ⟨p,hp,rfl⟩⟩))
 have eL:(rc a).L++(rc b).L=((tr a).2++(tr b).2).map fun p=>S.getD p.1 0:=by
  rw[(v.rel a (by simp)).2.2,(v.rel b (by simp)).2.2,List.map_append]
 have ltab:∀p∈(tr a).2++(tr b).2,p.1<n:=fun p hp=>by
  rcases VY.1 hp with q|q
  · exact llt a (by simp) p q
  · exact llt b (by simp) p q
 have rL:∀q∈(rc a).L++(rc b).L,0≤q∧q<N:=fun q hq=>by
  rw[eL]at hq
  obtain⟨p,hp,rfl⟩:=VN.1 hq
  exact v.so.at (ltab p hp)
 have rL2:∀q∈(rc a).L++(rc b).L,q.toNat<O.length:=fun q hq=>by have:=rL q hq;rw[v.len];omega
 have cnt1:∀k:Nat,k<n→(((rc a).L++(rc b).L).map Int.toNat).count (S.getD k 0).toNat=(((tr a).2++(tr b).2).map (·.1)).count k:=fun k hk=>by
  rw[eL,List.map_map]
  have:∀q:List (Nat×Nat),(∀p∈q,p.1<n)→(q.map (Int.toNat∘fun p=>S.getD p.1 0)).count (S.getD k 0).toNat=(q.map (·.1)).count k:=by
   intro q
   induction q with
   |nil=>intro _;rfl
   | cons p q ih =>
     intro h
     rw[VK,VK,List.count_cons,List.count_cons,ih fun p hp=>h p (by simp [hp])]
     have hp:=h p (by simp)
     have a1:=v.so.at hp
     have a2:=v.so.at hk
     congr 1
     by_cases c:p.1=k
     · simp [c]
     · have:¬(S.getD p.1 0).toNat=(S.getD k 0).toNat:=fun e=>c (v.so.inj hp hk (by omega))
       simp only[Function.comp_apply,beq_iff_eq,this,c,vS]
  exact this _ ltab
 rw[VK,VK,VJ,VJ,←VH,←List.map_append]at lnd
 have lnd1:=(List.nodup_append.1 lnd)
 refine⟨⟨by rw[em];exact hv,by rw[FS.Gj];simp only[Vy];omega,by simp only[Vy];omega, ?_,v.so, ?_, ?_, ?_,by rw[Eh];exact v.len⟩,rL, ?_, ?_⟩
 · have:=v.fin
   simpa [FS.yH]using this
 · intro x hx
   rcases vR.1 hx with q|q
   · subst q
     rw[if_pos rfl,et]
     refine⟨?_, ?_, ?_⟩
     · show(rc a).w+(rc b).w=s.ET.W.getD s.U.length 0
       rw[(v.rel a (by simp)).1,(v.rel b (by simp)).1,ea',eb']
       show _=(s.W++[s.sum]).getD s.U.length 0
       have e:(s.W++[s.sum]).getD s.U.length 0=s.sum:=by rw[v.hv.lu,Vx,VL (vB _)];simp
       rw[e];rfl
     · show _=MM n N S s.U.length
       have lu:=v.hv.lu
       unfold MM
       rw[if_neg (by omega)]
       show((N+(n-(l2.length+2)):Nat):Int)=(N:Int)+((s.U.length-n:Nat):Int)
       have:s.U.length-n=n-(l2.length+2):=by omega
       rw[this];omega
     · show(rc a).L++(rc b).L=_
       rw[eL];unfold yK;rw[List.map_map];rfl
   · rw[tm x q,er x q]
     have:=v.rel x (by simp [q])
     refine⟨?_,this.2⟩
     have rr:=v.hv.root _ (VN.2 ⟨x,Wb _ (Wb _ q),rfl⟩)
     have lt:=(vt.1 rr.2).1
     rw[this.1]
     show _=(s.W++[s.sum]).getD (tr x).1 0
     rw[Vx,Vx,VQ (by rw[←v.hv.lu];exact lt)]
 · intro x hx p hp
   rcases vR.1 hx with q|q
   · subst q
     rw[if_pos rfl]at hp
     obtain⟨p0,hp0,rfl⟩:=VN.1 hp
     have hlt:=ltab p0 hp0
     show(CQ O _).getD (S.getD p0.1 0).toNat 0=((p0.2+1:Nat):Int)
     rw[Gh _ _ _ rL2,cnt1 _ hlt]
     have c1:(((tr a).2++(tr b).2).map (·.1)).count p0.1=1:=by rw[lnd1.1.count,if_pos (VN.2 ⟨p0,hp0,rfl⟩)]
     rw[c1]
     have o1:O.getD (S.getD p0.1 0).toNat 0=((p0.2:Nat):Int):=by
      rcases VY.1 hp0 with z|z
      · exact v.out a (by simp) p0 z
      · exact v.out b (by simp) p0 z
     rw[o1];omega
   · rw[tm x q]at hp
     have hlt:=llt x (by simp [q]) p hp
     rw[Gh _ _ _ rL2,cnt1 _ hlt]
     have c0:(((tr a).2++(tr b).2).map (·.1)).count p.1=0:=List.count_eq_zero.2 fun hm=>
      lnd1.2.2 _ hm p.1 (List.mem_flatMap.2 ⟨tr x,VN.2 ⟨x,q,rfl⟩,VN.2 ⟨p,hp,rfl⟩⟩) rfl
     rw[c0,v.out x (by simp [q]) p hp];omega
 · intro q hq
   rw[Gh _ _ _ rL2,v.zero q hq]
   have:(((rc a).L++(rc b).L).map Int.toNat).count q=0:=List.count_eq_zero.2 fun hm=>by
    obtain⟨y,hy,rfl⟩:=VN.1 hm
    rw[eL]at hy
    obtain⟨p,hp,rfl⟩:=VN.1 hy
    have hp':=ltab p hp
    refine hq (S.getD p.1 0) ?_ rfl
    rw[Vx,Vz (by rw[v.so.len];exact hp')]
    exact VP _
   rw[this];rfl
 · have ln:=lv.length_eq
   rw[VK,VK,VJ,VJ,vV,vV,Wc,Wc,List.length_range]at ln
   rw[eL,Wc,vV];omega
 · have:=v.hv.ne (tr a) (by simp)
   rw[eL,Wc,vV]
   have:=Wf.2 this
   omega
theorem GQ.init {N:Nat} {S ws:List Int} {rc:Nat→Tz} {l:List Nat} (so:Cc ws.length N S) (pos:∀y∈ws,1≤y) (tr:Nat→Tr) (htr:l.map tr=T0 ws.length)
 (rel:∀t∈l,∃i,i<ws.length∧tr t=(i,[(i,0)])∧rc t=⟨ws.getD i 0,S.getD i 0,[S.getD i 0]⟩):
 GQ ws.length N ws.sum S (FS.yH (ws.length-1) (z5 ws)) (z5 ws) rc tr l (List.replicate N 0) where
 hv:=by rw[htr];exact z4.init ws false pos (fun h=>by cases h)
 lw:=by
  have:l.length=ws.length:=by have:=Wj List.length htr;simpa [T0]using this
  rw[this];show ws.length+ws.length=_;omega
 ll:=by
  have:l.length=ws.length:=by have:=Wj List.length htr;simpa [T0]using this
  omega
 fin:=by
  have:l.length=ws.length:=by have:=Wj List.length htr;simpa [T0]using this
  rw[this]
 so:=so
 rel t ht:=by
  obtain⟨i,hi,e1,e2⟩:=rel t ht
  rw[e1,e2]
  refine⟨rfl, ?_,rfl⟩
  show S.getD i 0=MM _ _ _ i
  unfold MM;rw[if_pos hi]
 out t ht p hp:=by
  obtain⟨i,hi,e1,e2⟩:=rel t ht
  rw[e1]at hp
  simp at hp
  subst hp
  have:=so.at hi
  show(List.replicate N (0:Int)).getD (S.getD i 0).toNat 0=_
  rw[Vx,V4,if_pos (by omega)];rfl
 zero q _:=by
  rw[Vx,V4];split<;>rfl
 len:=by simp
theorem GQ.TY {N : Nat} {S ws : List Int} {G : FS} {rc : Nat → Tz} {tr : Nat → Tr} {t : Nat} {O : List Int} {tot : Int} {s : FS} (hG : G = FS.yH (ws.length - 1) (z5 ws)) (v : GQ ws.length N tot S G s rc tr [t] O) : O = wU S (wB ws) (List.replicate N 0) := by
 have es:s=G:=v.fin
 have up:=v.hv.up
 have rt:=(v.hv.root (tr t) (by simp)).2
 have rtD:s.U.getD (tr t).1 (-1)= -1:=by rw[Vx,rt];rfl
 have rl:=(vt.1 rt).1
 have lv:=v.hv.leaves
 simp only[VK,Wk,VJ,List.flatMap_nil,VM]at lv
 have dep:∀q∈(tr t).2,zT s.U s.U.length (s.U.getD q.1 (-1))=q.2:=fun q hq=>by
  have:=v.hv.pt (tr t) (by simp) q hq
  have l:=GB up this
  exact GC up this rtD _ (by omega)
 have eD:wB ws=BL s.U ws.length:=by rw[es,hG];rfl
 have dl:(wB ws).length=ws.length:=xD ws
 have nd:=v.so.nd
 have ol:=v.len
 apply List.ext_getElem?
 intro q
 by_cases hq:q<N
 · have e0:O[q]?=some (O.getD q 0):=by rw[Vx,Vz (by omega)];rfl
   rw[e0]
   by_cases c:∃s∈S,s.toNat=q
   · obtain⟨y,hy,rfl⟩:=c
     obtain⟨j,hj,ej⟩:=Wa.1 hy
     have hj':j<ws.length:=by rw[v.so.len]at hj;exact hj
     have h1:S[j]?=some y:=by rw[Vz hj,ej]
     have eyD:S.getD j 0=y:=by rw[Vx,h1];rfl
     obtain⟨p,hp,ep⟩:=VN.1 (lv.mem_iff.2 (List.mem_range.2 hj'))
     have o1:=v.out t (by simp) p hp
     rw[ep,eyD]at o1
     have h2:(wB ws)[j]?=some ((p.2:Nat):Int):=by
      rw[eD];unfold BL
      rw[vJ,V6 hj']
      rw[←ep]
      show some ((zT s.U s.U.length (s.U.getD p.1 (-1)):Nat):Int)=_
      rw[dep p hp]
     rw[yW S _ _ j y _ nd h1 h2 (by simpa using hq),o1]
   · have c':∀s∈S,s.toNat≠q:=fun s hs e=>c ⟨s,hs,e⟩
     rw[xW _ _ _ _ c',v.zero q c',V4,if_pos hq]
 · rw[VS (by omega),VS (by rw[xw];simp;omega)]
def AD:List Int→Nat
 |[]=>0
 |c::r=>if c=0 then 0 else AD r+1
def zQ (C:List Int):Nat:=(wq C).length
def Es (C:List Int):List Int:=if zQ C=1 then C.set (AD C) 1 else C
theorem HX (C:List Int):(Es C).length=C.length:=by unfold Es;split<;>simp
theorem F5:∀(C:List Int),(∀y∈C,0≤y)→wq C=[]→∀y∈C,y=0
 |[],_,_,y,hy=>by simp at hy
 | c :: r, hp, h, y, hy => by
   rw[wq]at h
   by_cases q:0<c
   · rw[if_pos q]at h;cases h
   · rw[if_neg q]at h
     rcases vR.1 hy with z|z
     · have:=hp c (by simp);omega
     · exact F5 r (fun y h=>hp y (by simp [h])) h y z
theorem Qu {C : List Int} (hC : ∀ y ∈ C, 0 ≤ y) (h2 : 2 ≤ C.length) : wg 0 (Es C) = xn C ∧ wq (Es C) = xA C := by
 unfold xn xA zS Bd Es zQ
 rw[wP]
 by_cases c:(wq C).length=1
 · rw [if_pos c, if_pos c, if_pos c]
   match C,h2 with
   | c0 :: c1 :: r, _ =>
     have p0:=hC c0 (by simp)
     have p1:=hC c1 (by simp)
     by_cases q:0<c0
     · have w1:(wq (c1::r)).length=0:=by rw[wq,if_pos q]at c;simpa using c
       have wn:=V3 w1
       have s1:wg 1 (c1::r)=[]:=V3 (by rw[wP,w1])
       have z1:=F5 (c1::r) (fun y h=>hC y (by simp [h])) wn c1 (by simp)
       have i0:AD (c0::c1::r)=1:=by rw[AD,if_neg (by omega),AD,if_pos z1]
       have s2:wg 2 r=[]:=by rw[wg,if_neg (by omega)]at s1;exact s1
       have w2:wq r=[]:=by rw[wq,if_neg (by omega)]at wn;exact wn
       rw[i0]
       have eS:wg 0 (c0::c1::r)=[0]:=by rw[wg,if_pos q,s1];rfl
       have eW:wq (c0::c1::r)=[c0]:=by rw[wq,if_pos q,wn]
       rw[eS,eW]
       have e1:wg 0 (c0::1::r)=[0,1]:=by rw[wg,if_pos q,wg,if_pos (by omega),s2];rfl
       have e2:wq (c0::1::r)=[c0,1]:=by rw[wq,if_pos q,wq,if_pos (by omega),w2]
       exact⟨e1,e2⟩
     · have z0:c0=0:=by omega
       have i0:AD (c0::c1::r)=0:=by rw[AD,if_pos z0]
       rw[i0]
       have eS:wg 0 (c0::c1::r)=wg 1 (c1::r):=by rw[wg,if_neg q]
       have eW:wq (c0::c1::r)=wq (c1::r):=by rw[wq,if_neg q]
       rw[eS,eW]
       rw[eW]at c
       have cS:(wg 1 (c1::r)).length=1:=by rw[wP];exact c
       obtain⟨s,es⟩:=List.length_eq_one_iff.1 cS
       obtain⟨w,ew⟩:=List.length_eq_one_iff.1 c
       have sr:=xY 1 (c1::r) s (by rw[es];simp)
       have e1:wg 0 (1::c1::r)=0::wg 1 (c1::r):=by rw[wg,if_pos (by omega)];rfl
       have e2:wq (1::c1::r)=1::wq (c1::r):=by rw[wq,if_pos (by omega)]
       have e3:(c0::c1::r).set 0 1=1::c1::r:=rfl
       rw[e3,e1,e2,es,ew]
       have g:[s].getD 0 0=s:=rfl
       rw[g,if_pos (by omega),if_pos (by omega)]
       exact⟨rfl,rfl⟩
 · rw[if_neg c,if_neg c,if_neg c];exact⟨rfl,rfl⟩
theorem Dy:∀(i:Nat) (C:List Int),(∀y∈C,0≤y)→wg i (wT C)=wg i C∧wq (wT C)=wT (wq C)
 |i,[],_=>⟨rfl,rfl⟩
 | i, c :: r, h => by
   have hc:=h c (by simp)
   obtain⟨a,b⟩:=Dy (i+1) r fun y hy=>h y (by simp [hy])
   show wg i (y7 c::wT r)=_∧wq (y7 c::wT r)=_
   rw[wg,wg,wq,wq,a,b]
   have e:0<y7 c↔0<c:=by unfold y7;omega
   by_cases q:0<c
   · rw[if_pos (e.2 q),if_pos (e.2 q),if_pos q,if_pos q];exact⟨rfl,rfl⟩
   · rw[if_neg (fun z=>q (e.1 z)),if_neg (fun z=>q (e.1 z)),if_neg q,if_neg q];exact⟨rfl,rfl⟩
theorem B9 : ∀ (i : Nat) (C : List Int) (j k : Nat), j < k → k < (wg i C).length → (wg i C).getD j 0 < (wg i C).getD k 0
 |i,[],j,k,h,hk=>by simp [wg]at hk
 | i, c :: r, j, k, h, hk => by
   rw[wg]at hk ⊢
   split
   · rename_i q
     rw[if_pos q]at hk
     obtain⟨k,rfl⟩:∃m,k=m+1:=⟨k-1,by omega⟩
     simp only[Vy]at hk
     cases j with
     | zero =>
       have hm:(wg (i+1) r).getD k 0∈wg (i+1) r:=by rw[Vx,Vz (by omega)];exact VP _
       have:=xY (i+1) r _ hm
       show(i:Int)<(wg (i+1) r).getD k 0
       omega
     |succ j=>exact B9 (i+1) r j k (by omega) (by omega)
   · rename_i q
     rw[if_neg q]at hk
     exact B9 (i+1) r j k h hk
theorem FU (C:List Int):Cc (wq C).length C.length (wg 0 C):=
 ⟨wP 0 C,fun s hs=>by have:=xY 0 C s hs;omega,fun i j h1 h2=>B9 0 C i j h1 (by rw[wP];exact h2),Da C 0⟩
theorem EC {S D:List Int} {n:Nat} (hl:D.length=S.length) (nd:(S.map Int.toNat).Nodup) (hr:∀s∈S,s.toNat<n) {m:Int} (hm:0≤m):(∀y∈wU S D (List.replicate n 0),y≤m)↔zI D 0≤m:=by
 constructor
 · intro h
   refine Cx D 0 m (fun d hd=> ?_) hm
   obtain⟨j,hj,ej⟩:=Wa.1 hd
   have h1:S[j]?=some (S[j]'(by omega)):=Vz (by omega)
   have h2:D[j]?=some d:=by rw[Vz hj,ej]
   exact h d (vE (yW S D (List.replicate n 0) j _ d nd h1 h2 (by simpa using hr _ (VP _))))
 · intro h y hy
   obtain⟨p,hp,ep⟩:=Wa.1 hy
   have e:(wU S D (List.replicate n 0))[p]?=some y:=by rw[Vz hp,ep]
   by_cases c:∃s∈S,s.toNat=p
   · obtain⟨s,hs,rfl⟩:=c
     obtain⟨j,hj,ej⟩:=Wa.1 hs
     have h1:S[j]?=some s:=by rw[Vz hj,ej]
     have h2:D[j]?=some (D[j]'(by omega)):=Vz (by omega)
     rw[yW S D _ j s _ nd h1 h2 (by simpa using hr s hs)]at e
     have e:=vm e
     have:=(DJ D 0).2 _ (VP (show j<D.length by omega))
     omega
   · have c':∀s∈S,s.toNat≠p:=fun s hs q=>c ⟨s,hs,q⟩
     rw[xW _ _ _ _ c',V4]at e
     split at e
     · obtain rfl:=vm e;exact hm
     · cases e
def xJ (l:List Nat):List AV:=l.map fun t=>AV.aE t 0
theorem za (l:List Nat):(xJ l).length=l.length:=by simp [xJ]
theorem Bf {l:List Nat} {J:List AV} {i:Nat} (h:i<l.length):(xJ l++J)[i]?=some (.aE (l.getD i 0) 0):=by
 rw[VQ (by rw[za];exact h),xJ,vJ,Vx,Vz h];rfl
theorem A5 {l:List Nat} {i:Nat} (h:i<l.length):l.getD i 0∈l:=by
 rw[Vx,Vz h];exact VP h
structure Hz (h:H) (a id:Nat) (l:List Nat) (J:List AV) (rc:Nat→Tz):Prop where
 ga:h.get a=some [.aF id 0 l.length 1]
 gi:h.get id=some (xJ l++J)
 fa:h.floor≤a
 fi:h.floor≤id
 ne:a≠id
 tr:∀t∈l,t≠a∧t≠id∧(0≤(rc t).m∧(rc t).m<1000000)∧∃sv,h.get t=some [.int .i64 (rc t).w,.int .i64 (rc t).m,sv]
 lb:l.length<100000
theorem Hz.set {h:H} {a id:Nat} {l l':List Nat} {J:List AV} {rc:Nat→Tz} (z:Hz h a id l J rc) (p:l'.Perm l):Hz (h.set id (xJ l'++J)) a id l' J rc where
 ga:=by rw[vX z.ne,z.ga,p.length_eq]
 gi:=by rw[wu rfl,z.gi];rfl
 fa:=by simpa using z.fa
 fi:=by simpa using z.fi
 ne:=z.ne
 tr t ht:=by
  obtain⟨a1,a2,a3,sv,a4⟩:=z.tr t (p.mem_iff.1 ht)
  exact⟨a1,a2,a3,sv,by rw[vX a2];exact a4⟩
 lb:=by rw[p.length_eq];exact z.lb
theorem Ee (h:H) (id n:Nat):aR AP.A 363 [.aF id 0 n 1] h=some (.int .i64 n,h):=by
 refine um (fn:=AP.f363) (e:=[(2,.int .i64 n)]) (vs:=[.int .i64 n]) rfl rfl rfl (by simp (disch:=omega)only[go_sem,wc,AP.f363,AN]) rfl
theorem Qo {h:H} {a id:Nat} {l:List Nat} {J:List AV} {rc:Nat→Tz} (z:Hz h a id l J rc) {i j:Nat} (hi:i<l.length) (hj:j<l.length):
 aR AP.A 368 [.aF id 0 l.length 1,.int .i64 i,.int .i64 j] h=some (.bool (decide (yi rc (l.getD i 0)<yi rc (l.getD j 0))),h):=by
 obtain⟨_,_,mi,si,gi⟩:=z.tr _ (A5 hi)
 obtain⟨_,_,mj,sj,gj⟩:=z.tr _ (A5 hj)
 have pi:=Bf (J:=J) hi
 have pj:=Bf (J:=J) hj
 have gid:=z.gi
 unfold yi
 generalize xJ l++J=P at *
 generalize l.getD i 0=ti at *
 generalize l.getD j 0=tj at *
 generalize (rc ti).w=wi at *
 generalize (rc ti).m=mmi at *
 generalize (rc tj).w=wj at *
 generalize (rc tj).m=mmj at *
 generalize l.length=n at *
 clear z
 have i1:fP 1 (.aF id 0 n 1) (.int .i64 i)=some (.aE id i):=by
  simp [fP,cN,n7,hi]
 have j1:fP 1 (.aF id 0 n 1) (.int .i64 j)=some (.aE id j):=by
  simp [fP,cN,n7,hj]
 by_cases c:wi=wj
 · have e:decide (wi* 1000000+mmi<wj* 1000000+mmj)=decide (mmi<mmj):=decide_eq_decide.2 (by omega)
   rw[e]
   have cb:(wi !=wj)=false:=by simp [c]
   refine um (fn:=AP.f368) (e:=[(6,.bool (decide (mmi<mmj)))]) (vs:=[.bool (decide (mmi<mmj))]) rfl rfl rfl ?_ rfl
   simp (disch:=omega)only[go_sem,wc,AP.f368,i1,j1,gid,pi,pj,gi,gj,cb]
 · have e:decide (wi* 1000000+mmi<wj* 1000000+mmj)=decide (wi<wj):=decide_eq_decide.2 (by omega)
   rw[e]
   have cb:(wi !=wj)=true:=by simp [c]
   refine um (fn:=AP.f368) (e:=[(6,.bool (decide (wi<wj)))]) (vs:=[.bool (decide (wi<wj))]) rfl rfl rfl ?_ rfl
   simp (disch:=omega)only[go_sem,wc,AP.f368,i1,j1,gid,pi,pj,gi,gj,cb]
theorem Me {l:List Nat} {J:List AV} {i j:Nat} (hi:i<l.length) (hj:j<l.length):((xJ l++J).set i (.aE (l.getD j 0) 0)).set j (.aE (l.getD i 0) 0)=xJ (CI l i j)++J:=by
 rw[List.set_append_left _ _ (by rw[za];exact hi),List.set_append_left _ _ (by rw[VT,za];exact hj)]
 unfold xJ CI
 rw[List.map_set,List.map_set]
theorem QE {h:H} {a id:Nat} {l:List Nat} {J:List AV} {rc:Nat→Tz} (z:Hz h a id l J rc) {i j:Nat} (hi:i<l.length) (hj:j<l.length):
 aR AP.A 369 [.aF id 0 l.length 1,.int .i64 i,.int .i64 j] h=some (.bL [],h.set id (xJ (CI l i j)++J)):=by
 have pi:=Bf (J:=J) hi
 have pj:=Bf (J:=J) hj
 have gid:=z.gi
 have fi:=z.fi
 have e:=Me (J:=J) hi hj
 have pl:l.length≤(xJ l++J).length:=by rw[vV,za];omega
 rw[←e]
 generalize xJ l++J=P at *
 generalize l.getD i 0=ti at *
 generalize l.getD j 0=tj at *
 generalize l.length=n at *
 clear z e
 have i1:fP 1 (.aF id 0 n 1) (.int .i64 i)=some (.aE id i):=by
  simp [fP,cN,n7,hi]
 have j1:fP 1 (.aF id 0 n 1) (.int .i64 j)=some (.aE id j):=by
  simp [fP,cN,n7,hj]
 have e2:(h.set id (P.set i (.aE tj 0))).set id ((P.set i (.aE tj 0)).set j (.aE ti 0))=h.set id ((P.set i (.aE tj 0)).set j (.aE ti 0)):=H.set_set _ _ _ _
 rw[←e2]
 have g2:(h.set id (P.set i (.aE tj 0))).get id=some (P.set i (.aE tj 0)):=by rw[wu rfl,gid];rfl
 refine xb (fn:=AP.f369) (e:=[]) (vs:=[]) rfl rfl rfl ?_ rfl
 simp (disch:=omega)only[go_sem,wc,AP.f369,i1,j1,gid,pi,pj,g2]
theorem IM {h:H} {a id:Nat} {l:List Nat} {J:List AV} {rc:Nat→Tz} (z:Hz h a id l J rc) {i j:Nat} {x y:Int} (hx:x=i) (hy:y=j) (hi:i<l.length) (hj:j<l.length):
 aR AP.A 368 [.aF id 0 l.length 1,.int .i64 x,.int .i64 y] h=some (.bool (decide (yi rc (l.getD i 0)<yi rc (l.getD j 0))),h):=by subst hx;subst hy;exact Qo z hi hj
theorem I6 {h:H} {a id:Nat} {l:List Nat} {J:List AV} {rc:Nat→Tz} (z:Hz h a id l J rc) {i j:Nat} {x y:Int} (hx:x=i) (hy:y=j) (hi:i<l.length) (hj:j<l.length):
 aR AP.A 369 [.aF id 0 l.length 1,.int .i64 x,.int .i64 y] h=some (.bL [],h.set id (xJ (CI l i j)++J)):=by subst hx;subst hy;exact QE z hi hj
abbrev CP (a:Nat):AV:=.iface 1 (.aE a 0)
theorem Fa {h:H} {a n i:Nat} {i0:Int} (hn:n<100000) (hi:n≤2* i+1) (hi2:i<100000):
 aL (aR AP.A) bp AP.f366L0 [(0,CP a),(1,.int .i64 i0),(2,.int .i64 n),(7,.int .i64 i)] h=some (.exit 0,[(0,CP a),(1,.int .i64 i0),(2,.int .i64 n),(7,.int .i64 i),(8,.int .i64 (2* (i:Int)+1)),(21,.bool true)],h):=by
 have c:(n:Int)≤2* (i:Int)+1:=by omega
 simp (disch:=omega)only[go_sem,wc,AP.f366L0,c]
theorem IB {h : H} {a id : Nat} {l : List Nat} {J : List AV} {rc : Nat → Tz} (z : Hz h a id l J rc) {n i : Nat} {i0 : Int} (hn : n ≤ l.length) (hi : 2 * i + 1 < n) :
 (yi rc (l.getD (ER (yi rc) n i l) 0)<yi rc (l.getD i 0)→aL (aR AP.A) bp AP.f366L0 [(0,CP a),(1,.int .i64 i0),(2,.int .i64 n),(7,.int .i64 i)] h=some (.normal,[(0,CP a),(1,.int .i64 i0),(2,.int .i64 n),(7,.int .i64 (ER (yi rc) n i l:Nat))],h.set id (xJ (CI l i (ER (yi rc) n i l))++J)))∧
 (¬yi rc (l.getD (ER (yi rc) n i l) 0)<yi rc (l.getD i 0)→aL (aR AP.A) bp AP.f366L0 [(0,CP a),(1,.int .i64 i0),(2,.int .i64 n),(7,.int .i64 i)] h=some (.exit 0,[(0,CP a),(1,.int .i64 i0),(2,.int .i64 n),(7,.int .i64 i),(9,.int .i64 (ER (yi rc) n i l:Nat)),(39,.bool true)],h)):=by
 obtain⟨kr,kn⟩:=DG (ky:=yi rc) (n:=n) (i:=i) (l:=l) hi
 have lb:=z.lb
 have c0:¬(n:Int)≤2* (i:Int)+1:=by omega
 have ga:=z.ga
 have key:∀x:Int,x=(ER (yi rc) n i l:Nat)→x<1000000→(2* (i:Int)+1+1<n→aR AP.A 368 [.aF id 0 l.length 1,.int .i64 (2* (i:Int)+1+1),.int .i64 (2* (i:Int)+1)] h=some (.bool (decide (x=2* (i:Int)+1+1)),h))∧(¬2* (i:Int)+1+1<n→x=2* (i:Int)+1)∧(x=2* (i:Int)+1∨x=2* (i:Int)+1+1):=by
  intro x hx hx2
  refine⟨fun c=> ?_,fun c=>by omega,by omega⟩
  rw[IM z (i:=2* i+2) (j:=2* i+1) (by omega) (by omega) (by omega) (by omega)]
  congr 3
  have:ER (yi rc) n i l=2* i+2↔yi rc (l.getD (2* i+2) 0)<yi rc (l.getD (2* i+1) 0):=by
   unfold ER
   by_cases q:yi rc (l.getD (2* i+2) 0)<yi rc (l.getD (2* i+1) 0)
   · rw[if_pos ⟨by omega,q⟩];exact⟨fun _=>q,fun _=>rfl⟩
   · rw[if_neg (fun z=>q z.2)];exact⟨fun z=>by omega,fun z=>absurd z q⟩
  exact decide_eq_decide.2 (by rw[←this];omega)
 generalize hk:ER (yi rc) n i l=k at *
 obtain⟨k1,k2,k3⟩:=key k rfl (by omega)
 have lk:=IM z (x:=k) (y:=i) rfl rfl (by omega) (by omega)
 have sk:=I6 z (x:=i) (y:=k) rfl rfl (by omega) (by omega)
 constructor
 · intro c
   rw[VE c]at lk
   by_cases c1:2* (i:Int)+1+1<n
   · have k1':=k1 c1
     rcases k3 with e|e
     · have e2:decide ((k:Int)=2* (i:Int)+1+1)=false:=VD (by omega)
       rw[e2]at k1'
       rw[e]at lk sk ⊢
       clear z key k1 k2
       simp (disch:=omega)only[go_sem,wc,AP.f366L0,c0,c1,ga,k1',lk,sk]
     · have e2:decide ((k:Int)=2* (i:Int)+1+1)=true:=VE (by omega)
       rw[e2]at k1'
       rw[e]at lk sk ⊢
       clear z key k1 k2
       simp (disch:=omega)only[go_sem,wc,AP.f366L0,c0,c1,ga,k1',lk,sk]
   · rw[k2 c1]at lk sk ⊢
     clear z key k1 k2
     simp (disch:=omega)only[go_sem,wc,AP.f366L0,c0,c1,ga,lk,sk]
 · intro c
   rw[VD c]at lk
   by_cases c1:2* (i:Int)+1+1<n
   · have k1':=k1 c1
     rcases k3 with e|e
     · have e2:decide ((k:Int)=2* (i:Int)+1+1)=false:=VD (by omega)
       rw[e2]at k1'
       rw[e]at lk ⊢
       clear z key k1 k2 sk
       simp (disch:=omega)only[go_sem,wc,AP.f366L0,c0,c1,ga,k1',lk]
     · have e2:decide ((k:Int)=2* (i:Int)+1+1)=true:=VE (by omega)
       rw[e2]at k1'
       rw[e]at lk ⊢
       clear z key k1 k2 sk
       simp (disch:=omega)only[go_sem,wc,AP.f366L0,c0,c1,ga,k1',lk]
   · rw[k2 c1]at lk ⊢
     clear z key k1 k2 sk
     simp (disch:=omega)only[go_sem,wc,AP.f366L0,c0,c1,ga,lk]
theorem Fb {a id : Nat} {J : List AV} {rc : Nat → Tz} {n : Nat} {i0 : Int} : ∀ (f i : Nat) (l : List Nat) (h : H), Hz h a id l J rc → n ≤ l.length → n ≤ i + f → i < 100000 →
 ∃e' k,Lp AP.A [0,1,2,7] AP.f366L0 [(0,CP a),(1,.int .i64 i0),(2,.int .i64 n),(7,.int .i64 i)] h=some (.exit 0,e',h.set id (xJ (sink (yi rc) n f i l)++J))∧look e' 1=.int .i64 i0∧look e' 7=.int .i64 k
 | 0, i, l, h, z, hn, hf, hi => by
   rw[sink,H.jG z.gi]
   exact⟨_,i,tW (Fa (by have:=z.lb;omega) (by omega) hi),rfl,rfl⟩
 | f + 1, i, l, h, z, hn, hf, hi => by
   have lb:=z.lb
   rw[sink]
   by_cases c0:n≤2* i+1
   · rw[if_pos c0,H.jG z.gi]
     exact⟨_,i,tW (Fa (by omega) c0 hi),rfl,rfl⟩
   · rw[if_neg c0]
     obtain⟨r1,r2⟩:=IB z (i0:=i0) hn (show 2* i+1<n by omega)
     obtain⟨kr,kn⟩:=DG (ky:=yi rc) (n:=n) (i:=i) (l:=l) (by omega)
     by_cases c1:yi rc (l.getD (ER (yi rc) n i l) 0)<yi rc (l.getD i 0)
     · rw[if_pos c1]
       have r1:=r1 c1
       generalize ER (yi rc) n i l=k at *
       have zs:=z.set (Au (l:=l) (i:=i) (j:=k) (by omega) (by omega))
       obtain⟨e',m,k1,k2,k3⟩:=Fb f k _ _ zs (by rw[zu];exact hn) (by omega) (by omega)
       rw[H.set_set]at k1
       exact⟨e',m,tX r1 k1,k2,k3⟩
     · rw[if_neg c1,H.jG z.gi]
       exact⟨_,i,tW (r2 c1),rfl,rfl⟩
theorem Lg {h:H} {a id:Nat} {l:List Nat} {J:List AV} {rc:Nat→Tz} (z:Hz h a id l J rc) {n i:Nat} (hn:n≤l.length) (hi:i<100000):
 ∃b,aR AP.A 366 [CP a,.int .i64 i,.int .i64 n] h=some (.bool b,h.set id (xJ (sink (yi rc) n n i l)++J)):=by
 obtain⟨e',k,L,e1,e7⟩:=Fb (i0:=i) n i l h z hn (by omega) hi
 refine⟨decide ((i:Int)<k),um (fn:=AP.f366) (e:=[(6,.bool (decide ((i:Int)<k)))]) (vs:=[.bool (decide ((i:Int)<k))]) rfl rfl rfl ?_ rfl⟩
 simp (disch:=omega)only[go_sem,wc,AP.f366,sX,L,rT,sE,e1,e7]
theorem Fl {a id:Nat} {J:List AV} {rc:Nat→Tz} {n:Nat}:∀(i:Nat) (l:List Nat) (h:H),Hz h a id l J rc→l.length=n→i<100000→
 ∃e',Lp AP.A [0,2,3] AP.f362L0 [(0,CP a),(2,.int .i64 n),(3,.int .i64 ((i:Int)-1))] h=some (.exit 0,e',h.set id (xJ (A7 (ky:=yi rc) n i l)++J))
 | 0, l, h, z, hn, hi => by
   rw[A7,H.jG z.gi]
   refine⟨[(0,CP a),(2,.int .i64 n),(3,.int .i64 (-1)),(10,.bool false)],tW ?_⟩
   have c:¬(0:Int)≤-1:=by omega
   show aL (aR AP.A) bp AP.f362L0 [(0,CP a),(2,.int .i64 n),(3,.int .i64 (-1))] h=_
   simp (disch:=omega)only[go_sem,wc,AP.f362L0,c]
 | i + 1, l, h, z, hn, hi => by
   have lb:=z.lb
   obtain⟨b,k⟩:=Lg z (n:=n) (i:=i) (by omega) (by omega)
   have e0:((i+1:Nat):Int)-1=(i:Int):=by omega
   have c:(0:Int)≤(i:Int):=by omega
   have zs:=z.set (l':=sink (yi rc) n n i l) (FQ (by omega))
   obtain⟨e',L⟩:=Fl (n:=n) i _ _ zs (by rw[CH];exact hn) (by omega)
   rw[H.set_set]at L
   refine⟨e',tX (e':=[(0,CP a),(2,.int .i64 n),(3,.int .i64 ((i:Int)-1))]) ?_ (by rw[A7];exact L)⟩
   rw[e0]
   simp (disch:=omega)only[go_sem,wc,AP.f362L0,c,k]
theorem II {n:Nat} (h:n<100000):bj .quo (.int .i64 (n:Int)) (.int .i64 2)=some (.int .i64 ((n/2:Nat):Int)):=by
 have e:=sK (k:=.i64) (a:=(n:Int)) (b:=2) (by omega)
 have:Int.tdiv (n:Int) 2=((n/2:Nat):Int):=zf n 2
 rw[e,this,wi (by omega)]
theorem Nf {h:H} {a id:Nat} {l:List Nat} {J:List AV} {rc:Nat→Tz} (z:Hz h a id l J rc):
 aR AP.A 362 [CP a] h=some (.bL [],h.set id (xJ (A7 (ky:=yi rc) l.length (l.length/2) l)++J)):=by
 have lb:=z.lb
 have ga:=z.ga
 have k:∀g:H,aR AP.A 363 [.aF id 0 l.length 1] g=_:=fun g=>Ee g id l.length
 obtain⟨e',L⟩:=Fl (n:=l.length) (l.length/2) l h z rfl (by omega)
 have q:=II lb
 refine xb (fn:=AP.f362) (e:=[]) (vs:=[]) rfl rfl rfl ?_ rfl
 generalize xJ (A7 (ky:=yi rc) l.length (l.length/2) l)=P at *
 generalize l.length=n at *
 clear z
 simp (disch:=omega)only[go_sem,wc,AP.f362,ga,k,q,sX,L]
theorem Tg {h:H} {a id:Nat} {l:List Nat} {t:Nat} {J:List AV} {rc:Nat→Tz} (z:Hz h a id (l++[t]) J rc):
 aR AP.A 370 [.aE a 0] h=some (.iface 2 (.aE t 0),h.set a [.aF id 0 l.length 1])∧Hz (h.set a [.aF id 0 l.length 1]) a id l (.aE t 0::J) rc:=by
 have lb:=z.lb
 have ga:=z.ga
 have gi:=z.gi
 have fa:=z.fa
 have pt:=Bf (J:=J) (show l.length<(l++[t]).length by simp)
 have gt:(l++[t]).getD l.length 0=t:=by simp
 rw[gt]at pt
 have eP:xJ (l++[t])++J=xJ l++(.aE t 0::J):=by simp [xJ]
 constructor
 · have lP:l.length+1≤(xJ (l++[t])++J).length:=by rw[vV,za];simp
   rw[vV,V8]at lb ga
   generalize xJ (l++[t])++J=P at *
   generalize l.length=n at *
   clear z eP gt
   have i1:fP 1 (.aF id 0 (n+1) 1) (.int .i64 n)=some (.aE id n):=by simp [fP,cN,n7,show(n:Int)<(n:Int)+1 by omega]
   have s1:sQ h 1 (.aF id 0 (n+1) 1) none (some (.int .i64 n)) none=some (.aF id 0 n 1):=by
    have:=Ia (m:=n) (p:=id) (o:=0) (k:=n+1) gi (n:=1) (by omega) (by omega) ⟨by omega,by simp;omega⟩
    rw[show((n:Int)).toNat=n by omega]at this
    exact this
   have n1:((n+1:Nat):Int)-1=n:=by omega
   refine um (fn:=AP.f370) (e:=[(2,.iface 2 (.aE t 0))]) (vs:=[.iface 2 (.aE t 0)]) rfl rfl rfl ?_ rfl
   simp (disch:=omega)only[go_sem,wc,AP.f370,ga,AN,n1,i1,gi,pt,s1]
 · refine⟨by rw[wu rfl,ga];rfl,by rw[vX (fun q=>z.ne q.symm),gi,eP],by simpa using fa,by simpa using z.fi,z.ne,fun x hx=> ?_,by simp at lb;omega⟩
   obtain⟨a1,a2,a3,sv,a4⟩:=z.tr x (by simp [hx])
   exact⟨a1,a2,a3,sv,by rw[vX a1];exact a4⟩
theorem LG {h:H} {a id:Nat} {l:List Nat} {J:List AV} {rc:Nat→Tz} (z:Hz h a id l J rc) (h1:1≤l.length) (ho:Iw (yi rc) 0 l.length l):
 ∃t l' h',aR AP.A 364 [CP a] h=some (.iface 2 (.aE t 0),h')∧Hz h' a id l' (.aE t 0::J) rc∧l.Perm (t::l')∧Iw (yi rc) 0 l'.length l'∧(∀x∈l',yi rc t≤yi rc x)∧h'.next=h.next∧h'.floor=h.floor∧∀i,i≠a→i≠id→h'.get i=h.get i:=by
 have lb:=z.lb
 have ga:=z.ga
 obtain⟨n,hn⟩:∃n,l.length=n+1:=⟨l.length-1,by omega⟩
 have k0:∀g:H,aR AP.A 363 [.aF id 0 l.length 1] g=_:=fun g=>Ee g id l.length
 have k1:=I6 z (i:=0) (j:=n) (x:=0) (y:=n) rfl rfl (by omega) (by omega)
 have p1:=Au (l:=l) (i:=0) (j:=n) (by omega) (by omega)
 have z1:=z.set p1
 have z1a:=z1.ga
 have g:∀k,(CI l 0 n).getD k 0=if k=n then l.getD 0 0 else if k=0 then l.getD n 0 else l.getD k 0:=fun k=>GL (by omega) (by omega)
 have sl1:(CI l 0 n).length=n+1:=by rw[zu];exact hn
 obtain⟨b,k2⟩:=Lg z1 (n:=n) (i:=0) (by omega) (by omega)
 obtain⟨s1,s2,s3⟩:=GI (ky:=yi rc) (lo:=0) (n:=n) n 0 (CI l 0 n) (by omega) (by omega) (by omega) ⟨fun c h0 hc hp hne=>by
  rw[g,g,if_neg (by omega),if_neg hne,if_neg (by omega),if_neg (by omega)]
  exact ho c h0 (by omega) (by omega),fun c h0 hc hp h1 h2=>by omega⟩
 have z2:=z1.set s2
 have sl2:(sink (yi rc) n n 0 (CI l 0 n)).length=n+1:=by rw[CH];exact sl1
 have e3:=s3 n (vB _)
 rw[g,if_pos rfl]at e3
 obtain⟨l',hl'⟩:∃l',l'=(sink (yi rc) n n 0 (CI l 0 n)).take n:=⟨_,rfl⟩
 have ll':l'.length=n:=by rw[hl',VZ,sl2];omega
 have eS:sink (yi rc) n n 0 (CI l 0 n)=l'++[l.getD 0 0]:=by
  rw[hl',←e3]
  have:=List.take_append_drop n (sink (yi rc) n n 0 (CI l 0 n))
  have e4:(sink (yi rc) n n 0 (CI l 0 n)).drop n=[(sink (yi rc) n n 0 (CI l 0 n)).getD n 0]:=by
   rw[List.drop_eq_getElem_cons (by omega),List.drop_eq_nil_of_le (by omega),Vx,Vz (by omega)];rfl
  rw[←e4,this]
 have gl:∀k,k<n→(l'++[l.getD 0 0]).getD k 0=l'.getD k 0:=fun k hk=>by
  rw[Vx,VQ (by omega),←Vx]
 rw[H.set_set]at k2 z2
 rw[eS]at s1 s2 z2 k2
 obtain⟨k3,z3⟩:=Tg z2
 have pm:l.Perm (l.getD 0 0::l'):=(s2.trans p1).symm.trans List.perm_append_comm
 refine⟨l.getD 0 0,l',_, ?_,z3,pm, ?_, ?_,by simp,by simp,fun i h1 h2=>by rw[vX h1,vX h2]⟩
 · rw[zu]at z1a
   have gS:((h.set id (xJ (CI l 0 n)++J)).get a)=some [.aF id 0 l.length 1]:=by rw[z1a]
   have k2':aR AP.A 366 [CP a,.int .i64 0,.int .i64 n] (h.set id (xJ (CI l 0 n)++J))=_:=k2
   have n1:(l.length:Int)-1=n:=by omega
   refine um (fn:=AP.f364) (e:=[(2,.iface 2 (.aE (l.getD 0 0) 0))]) (vs:=[.iface 2 (.aE (l.getD 0 0) 0)]) rfl rfl rfl ?_ rfl
   generalize xJ (CI l 0 n)++J=P1 at *
   generalize xJ (l'++[l.getD 0 0])++J=P2 at *
   generalize l.getD 0 0=t at *
   generalize l'.length=m at *
   generalize l.length=N at *
   clear z z1 z2 z3 g s1 s2 s3 ho
   simp (disch:=omega)only[go_sem,wc,AP.f364,ga,k0,n1,k1,k2',k3]
 · intro c h0 hc hp
   have:=s1 c h0 (by omega) (by omega)
   rw[gl _ (by omega),gl _ (by omega)]at this
   exact this
 · intro x hx
   have:x∈l:=pm.mem_iff.2 (Wb _ hx)
   obtain⟨j,hj,ej⟩:=Wa.1 this
   have:=LF ho j hj
   rw[show l.getD j 0=x by rw[Vx,Vz hj,←ej];rfl]at this
   exact this
theorem Jw:bj .quo (.int .i64 (-1)) (.int .i64 2)=some (.int .i64 0):=by
 have e:=sK (k:=.i64) (a:= -1) (b:=2) (by omega)
 rw[e];rfl
theorem NB {a id : Nat} {J : List AV} {rc : Nat → Tz} : ∀ (f j : Nat) (l : List Nat) (h : H), Hz h a id l J rc → j < l.length → j ≤ f →
 ∃e',Lp AP.A [0,1] AP.f367L0 [(0,CP a),(1,.int .i64 j)] h=some (.exit 0,e',h.set id (xJ (EA (yi rc) f j l)++J)):=by
 intro f
 induction f with
 | zero =>
   intro j l h z hj hf
   obtain rfl:j=0:=by omega
   rw[EA,H.jG z.gi]
   refine⟨[(0,CP a),(1,.int .i64 0),(4,.int .i64 0),(17,.bool true)],tW ?_⟩
   show aL (aR AP.A) bp AP.f367L0 [(0,CP a),(1,.int .i64 0)] h=_
   simp (disch:=omega)only[go_sem,wc,AP.f367L0,Jw]
 | succ f ih =>
   intro j l h z hj hf
   have lb:=z.lb
   have ga:=z.ga
   rw[EA]
   by_cases c0:j=0
   · subst c0
     rw[if_pos rfl,H.jG z.gi]
     refine⟨[(0,CP a),(1,.int .i64 0),(4,.int .i64 0),(17,.bool true)],tW ?_⟩
     show aL (aR AP.A) bp AP.f367L0 [(0,CP a),(1,.int .i64 0)] h=_
     simp (disch:=omega)only[go_sem,wc,AP.f367L0,Jw]
   · rw[if_neg c0]
     obtain⟨p,hp⟩:∃p,p=(j-1)/2:=⟨_,rfl⟩
     have n1:(j:Int)-1=((j-1:Nat):Int):=by omega
     have q:=II (n:=j-1) (by omega)
     rw[←hp]at q ⊢
     have ls:=IM z (x:=j) (y:=p) rfl rfl (by omega) (by omega)
     have sw:=I6 z (x:=p) (y:=j) rfl rfl (by omega) (by omega)
     have cb:((p:Int)==(j:Int))=false:=by simp;omega
     by_cases c1:yi rc (l.getD j 0)<yi rc (l.getD p 0)
     · rw[if_pos c1]
       rw[VE c1]at ls
       have zs:=z.set (Au (l:=l) (i:=p) (j:=j) (by omega) (by omega))
       obtain⟨e',L⟩:=ih p _ _ zs (by rw[zu];omega) (by omega)
       rw[H.set_set]at L
       refine⟨e',tX (e':=[(0,CP a),(1,.int .i64 p)]) ?_ L⟩
       clear z zs ih
       simp (disch:=omega)only[go_sem,wc,AP.f367L0,n1,q,ga,ls,sw,cb]
     · rw[if_neg c1,H.jG z.gi]
       rw[VD c1]at ls
       refine⟨[(0,CP a),(1,.int .i64 j),(4,.int .i64 p),(17,.bool true)],tW ?_⟩
       clear z ih
       simp (disch:=omega)only[go_sem,wc,AP.f367L0,n1,q,ga,ls,cb]
theorem Ue {h:H} {a id:Nat} {l:List Nat} {J:List AV} {rc:Nat→Tz} (z:Hz h a id l J rc) {j:Nat} (hj:j<l.length):
 aR AP.A 367 [CP a,.int .i64 j] h=some (.bL [],h.set id (xJ (EA (yi rc) j j l)++J)):=by
 obtain⟨e',L⟩:=NB j j l h z hj (vB _)
 refine xb (fn:=AP.f367) (e:=[]) (vs:=[]) rfl rfl rfl ?_ rfl
 simp (disch:=omega)only[go_sem,wc,AP.f367,sX,L]
theorem Ng {h:H} {a id:Nat} {l:List Nat} {c:AV} {J:List AV} {rc:Nat→Tz} (z:Hz h a id l (c::J) rc) (ho:Iw (yi rc) 0 l.length l) {t:Nat} {sv:AV} (ht:t≠a∧t≠id) (hm:0≤(rc t).m∧(rc t).m<1000000) (gt:h.get t=some [.int .i64 (rc t).w,.int .i64 (rc t).m,sv]) (hlb:l.length+1<100000) (hfl:h.floor≤h.next):
 ∃l' h',aR AP.A 365 [CP a,.iface 2 (.aE t 0)] h=some (.bL [],h')∧Hz h' a id l' J rc∧l'.Perm (t::l)∧Iw (yi rc) 0 l'.length l'∧h'.next=h.next+1∧h'.floor=h.floor∧∀i,i<h.next→i≠a→i≠id→h'.get i=h.get i:=by
 have lb:=z.lb
 have ga:=z.ga
 have gi:=z.gi
 have fa:=z.fa
 have fi:=z.fi
 have ne:=z.ne
 have la:=h.lt _ _ ga
 have li:=h.lt _ _ gi
 have lt:=h.lt _ _ gt
 have eP:(xJ l++c::J).set l.length (.aE t 0)=xJ (l++[t])++J:=by
  rw[V9 _ _ (by rw[za];exact vB _),za,Wo];simp [xJ]
 have lP:l.length+1≤(xJ l++c::J).length:=by rw[vV,za];simp
 obtain⟨h1,eh1⟩:∃g,g=((h.alloc [.aE t 0]).set id (xJ (l++[t])++J)).set a [.aF id 0 (l.length+1) 1]:=⟨_,rfl⟩
 have k1:aR AP.A 371 [.aE a 0,.iface 2 (.aE t 0)] h=some (.bL [],h1):=by
  rw[eh1,←eP]
  refine xb (fn:=AP.f371) (e:=[]) (vs:=[]) rfl rfl rfl ?_ rfl
  have gi1:(h.alloc [.aE t 0]).get id=some (xJ l++c::J):=by rw[v8 (by omega),gi]
  generalize xJ l++c::J=P at *
  generalize l.length=n at *
  clear z ho eP eh1
  simp (disch:=first|omega|(simp only[wY,Vy,VC,vF,Nat.reduceAdd];first|done|omega|fail)|(simp (disch:=first|omega|(simp only[wY,Vy,VC,vF,Nat.reduceAdd];first|done|omega|fail)|fail)only[wY,zX,VG,Vy,VC,vF,Nat.reduceAdd];done)|fail)only[go_sem,wc,zW,AP.f371,ga,gi,lP]
 have z1:Hz h1 a id (l++[t]) J rc:=by
  rw[eh1]
  refine⟨by rw[wu rfl,vX ne,v8 (by omega),ga];simp,by rw[vX (Ne.symm ne),wu rfl,v8 (by omega),gi];rfl,by simpa using fa,by simpa using fi,ne,fun x hx=> ?_,by simp;omega⟩
  rcases VY.1 hx with q|q
  · obtain⟨a1,a2,a3,s,a4⟩:=z.tr x q
    have:=h.lt _ _ a4
    exact⟨a1,a2,a3,s,by rw[vX a1,vX a2,v8 (by omega),a4]⟩
  · obtain rfl:=List.mem_singleton.1 q
    exact⟨ht.1,ht.2,hm,sv,by rw[vX ht.1,vX ht.2,v8 (by omega),gt]⟩
 have k2:=Ee h1 id (l.length+1)
 have k3:=Ue z1 (j:=l.length) (by simp)
 obtain⟨r1,r2⟩:=JL (ky:=yi rc) (n:=l.length+1) l.length l.length (l++[t]) (vB _) (by omega) (by simp) ⟨fun x h0 hx hne=>by
  have hl:x<l.length:=by omega
  have:=ho x h0 hl (by omega)
  rw[Vx,Vx,VQ (by omega),VQ hl,←Vx,←Vx]
  exact this,fun x h0 hx hp h1=>by omega⟩
 have z2:=z1.set r2
 have g1:=z1.ga
 rw[vV,V8]at g1
 refine⟨_,_, ?_,z2,r2.trans List.perm_append_comm,by rw[H6];simpa using r1,by rw[eh1];simp,by rw[eh1];simp,fun i hi h2 h3=>by rw[vX h3,eh1,vX h2,vX h3,v8 (by omega)]⟩
 refine xb (fn:=AP.f365) (e:=[]) (vs:=[]) rfl rfl rfl ?_ rfl
 have n1:((l.length+1:Nat):Int)-1=l.length:=by omega
 generalize xJ (EA (yi rc) l.length l.length (l++[t]))++J=P2 at *
 generalize l.length=n at *
 clear z z1 z2 ho r1 r2 eP
 simp (disch:=omega)only[go_sem,wc,AP.f365,k1,g1,k2,n1,k3]
end Ab
