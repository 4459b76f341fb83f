/- Part C2. -/
import Derived.Test.YtcpjlemfholepaaGreatC1
set_option linter.unusedSimpArgs false
set_option linter.unusedVariables false
namespace Ab
open Go
theorem IK (l : List Int) {n i : Nat} (hi : i < (syms l (n + 1)).length) : ∀ m, n + 1 ≤ m → (flat l m)[(flat l n).length + i]? = (syms l (n + 1))[i]?
 |0,h=>by omega
 | m + 1, h => by
   rw[flat]
   by_cases e:n=m
   · subst e
     rw[X0 (by omega),Nat.add_sub_cancel_left]
   · have ih:=IK l hi m (by omega)
     have hlt:(flat l n).length+i<(flat l m).length:=by
      have:((syms l (n+1))[i]?).isSome=true:=by rw[XQ hi];rfl
      rw[←ih]at this
      obtain⟨x,hx⟩:=Option.isSome_iff_exists.1 this
      exact(vh.1 hx).1
     rw[X2 hlt];exact ih
theorem L7 {c:FC} {S:SS} {h:H} {ov:AV} (st:Ft c S h ov) (b:AV) (v f a n:Int) (hs:n=16∨(n≤15∧S.e≠0)):
 ∃e',Lp AP.A [0,1,5,6,7,8] AP.f49L0 [(0,.aD c.f 0),(1,b),(5,I v),(6,I f),(7,I a),(8,I n)] h=some (.exit 0,e',h)∧look e' 0=.aD c.f 0:=by
 have gf:=st.gf
 refine⟨[(0,.aD c.f 0),(1,b),(5,I v),(6,I f),(7,I a),(8,I n),(17,.bool false)],tM ?_,rfl⟩
 rcases hs with hn|⟨hn,he⟩
 · have c1:¬n≤15:=by omega
   simp only[I]at *
   simp only[AP.f49L0,go_sem,XP c1]
 · have c2:(S.e==0)=false:=uH he
   simp only[I]at *
   simp only[AP.f49L0,go_sem,XS hn,gf,c2]
theorem OX {v x:Nat} (hx:x<2):(v* 2|||x)=v* 2+x:=by
 have:=Nat.two_pow_add_eq_or_of_lt (i:=1) (show x<2^1 by omega) v
 rw[Nat.mul_comm v 2]
 simpa using this.symm
theorem Gq {c : FC} (l : List Int) (hl : l.length < 1000) : ∀ (k n v : Nat) (S : SS) (h : H) (ov : AV), n + 1 + k = 16 → v < 2 ^ n → vR l (n + 1) ≤ (v * 2 : Nat) → Ft c S h ov → S.e = 0 →
 ∃ h' S', Ft c S' h' ov ∧ FF c h ov h' ov ∧ match xX c.text l k (n + 1) v S.at_ with
   |some (y,p)=>S'={S with at_:=p}∧∃e',Lp AP.A [0,1,5,6,7,8] AP.f49L0 [(0,.aD c.f 0),(1,wq l),(5,I (v* 2:Nat)),(6,I (vR l (n+1))),(7,I (flat l n).length),(8,I (n+1:Nat))] h=some (.ret,e',h')∧look e' 4=I y
   |none=>(S'.e=0∧∃e',Lp AP.A [0,1,5,6,7,8] AP.f49L0 [(0,.aD c.f 0),(1,wq l),(5,I (v* 2:Nat)),(6,I (vR l (n+1))),(7,I (flat l n).length),(8,I (n+1:Nat))] h=some (.exit 0,e',h')∧look e' 0=.aD c.f 0)∨
    (S'.e=700∧∃e',Lp AP.A [0,1,5,6,7,8] AP.f49L0 [(0,.aD c.f 0),(1,wq l),(5,I (v* 2:Nat)),(6,I (vR l (n+1))),(7,I (flat l n).length),(8,I (n+1:Nat))] h=some (.ret,e',h')∧look e' 4=I (-1))
 | 0, n, v, S, h, ov, hk, hv, hf, st, he => by
   obtain⟨e',q1,q2⟩:=L7 st (wq l) (v* 2:Nat) (vR l (n+1)) (flat l n).length (n+1:Nat) (.inl (by omega))
   exact⟨h,S,st,FF.refl _ _ _,by simp only[xX];exact .inl ⟨he,e',q1,q2⟩⟩
 | k + 1, n, v, S, h, ov, hk, hv, hf, st, he => by
   have gf:=st.gf
   obtain⟨h1,k1,k2,k3⟩:=yO st 1 1 rfl (by omega)
   have c1:((n+1:Nat):Int)≤15:=by omega
   have hp:2^n≤2^14:=XY (by omega) (by omega)
   by_cases hat:S.at_+1≤8* c.text.size
   · have eg:wC c 1 S=(vP c.text S.at_ 1,{S with at_:=S.at_+1}):=by rw[wC,if_pos hat]
     rw[eg]at k1 k2
     dsimp only at k1 k2
     have gf1:=k2.gf
     dsimp only at gf1
     rw[xX,if_pos hat]
     obtain⟨x,hx⟩:∃x,x=vP c.text S.at_ 1:=⟨_,rfl⟩
     have hx2:x<2:=by rw[hx];simpa using wQ c.text S.at_ 1
     rw[←hx]at k1 ⊢
     have o1:bits .or .i64 ((v* 2:Nat):Int) (x:Int)=((v* 2+x:Nat):Int):=by rw[Eo (by omega) (by omega),OX hx2]
     have ce:(S.e !=0)=false:=uJ he
     have hcl:=Ay l (n+1)
     have hfb:=zQ (show l.length<100000 by omega) (n+1)
     have hp2:=zV (show n+1≤15 by omega)
     have a1:cN (I (n+1:Nat)) 16=some (n+1):=kj (by omega)
     have g1:(nK 17 (NP l))[n+1]?=some (I (xw l (n+1))):=by rw[fK (by omega),NP,if_pos (by omega)]
     have g2:(nK 17 (NP l))[16]?=some (Am (ints (flat l 15))):=by rw[fK (by omega),NP,if_neg (by omega)]
     have w1:IntKind.wrap .i64 (((v* 2+x:Nat):Int)-(xw l (n+1):Int))=((v* 2+x:Nat):Int)-(xw l (n+1):Int):=ud (by omega) (by omega)
     have hsc:=AU l (n+1)
     have hfll:=Bw l n
     have hfln:n* l.length≤15* 1000:=Yx (by omega) (by omega)
     have hrb:wq l=.aK (nK 17 (NP l)) 0:=rfl
     have hf2:vR l (n+1+1)=(vR l (n+1)+xw l (n+1))* 2:=rfl
     by_cases hlt:((v* 2+x:Nat):Int)-(xw l (n+1):Int)<vR l (n+1)
     ·
      obtain⟨i,hi⟩:∃i:Nat,((v* 2+x:Nat):Int)-vR l (n+1)=i:=XT (by omega)
      have hil:i<(syms l (n+1)).length:=by omega
      obtain⟨y,hy⟩:∃y,(syms l (n+1))[i]?=some y:=⟨_,XQ hil⟩
      have hfd:yD l (n+1) ((v* 2+x:Nat):Int)=some y:=by rw[yD,if_pos (by omega),hi,Yo,hy]
      rw[hfd]
      have hflat:=IK l hil 15 (by omega)
      rw[hy]at hflat
      have hfl15:(flat l n).length+i<(flat l 15).length:=(vh.1 hflat).1
      have hne:ints (flat l 15)≠[]:=by intro e;have:=Yh List.length e;simp at this;simp [this]at hfl15
      have hs:Am (ints (flat l 15))=.aV false (ints (flat l 15)) 0 (ints (flat l 15)).length 1:=by rw[Am,if_neg hne]
      rw[hs]at g2
      have w2:IntKind.wrap .i64 (((flat l n).length:Int)+((v* 2+x:Nat):Int))=(((flat l n).length+(v* 2+x):Nat):Int):=by
       rw[show((flat l n).length:Int)+((v* 2+x:Nat):Int)=(((flat l n).length+(v* 2+x):Nat):Int)by omega];exact vL (by omega)
      have w3:IntKind.wrap .i64 ((((flat l n).length+(v* 2+x):Nat):Int)-vR l (n+1))=(((flat l n).length+i:Nat):Int):=by
       rw[show(((flat l n).length+(v* 2+x):Nat):Int)-vR l (n+1)=(((flat l n).length+i:Nat):Int)by omega];exact vL (by omega)
      have a2:fM 1 (.aV false (ints (flat l 15)) 0 (ints (flat l 15)).length 1) (I ((flat l n).length+i:Nat))=some (.aK (ints (flat l 15)) ((flat l n).length+i)):=by
       have:=kj (show(flat l n).length+i<(ints (flat l 15)).length by rw[pY];exact hfl15)
       simp only[fM,if_true,this,vi,vr,Yy]
      have g3:=tu hflat
      refine⟨h1,_,k2,k3,rfl,[(4,I y)],uh ?_,rfl⟩
      rw[hrb]
      clear hrb hs hne hflat hy hfd hf2
      generalize nK 17 (NP l)=T at *
      generalize ints (flat l 15)=FS at *
      generalize (flat l n).length=FL at *
      generalize vR l (n+1)=FC1 at *
      generalize FL+(v* 2+x)=VV at *
      generalize FL+i=VI2 at *
      generalize v* 2+x=VX at *
      generalize v* 2=V2 at *
      simp only[I]at *
      simp only[AP.f49L0,go_sem,XS c1,gf,he,k1,o1,gf1,ce,a1,g1,w1,XS hlt,g2,w2,w3,a2,g3]
     · have hfd:yD l (n+1) ((v* 2+x:Nat):Int)=none:=by rw[yD,if_pos (by omega),X5 (by omega)]
       rw[hfd]
       have w2:IntKind.wrap .i64 (((flat l n).length:Int)+(xw l (n+1):Int))=((flat l (n+1)).length:Int):=by
        rw[show((flat l n).length:Int)+(xw l (n+1):Int)=((flat l (n+1)).length:Int)by rw[flat,vI,hsc];omega]
        refine vL ?_
        rw[flat,vI,hsc];omega
       have w3:IntKind.wrap .i64 (vR l (n+1)+(xw l (n+1):Int))=vR l (n+1)+(xw l (n+1):Int):=ud (by omega) (by omega)
       have s1:pF .shl .i64 (vR l (n+1)+(xw l (n+1):Int)) 1=some (.int .i64 (vR l (n+1+1))):=by
        obtain⟨z,hz⟩:∃z:Nat,vR l (n+1)+(xw l (n+1):Int)=z:=XT (by omega)
        have:=ym (a:=z) (s:=1) (by omega) (by omega)
        rw[hf2,hz]
        rw[show((1:Nat):Int)=1 from rfl]at this
        rw[this];simp
       have s2:pF .shl .i64 ((v* 2+x:Nat):Int) 1=some (.int .i64 (((v* 2+x)* 2:Nat):Int)):=by
        have:=ym (a:=v* 2+x) (s:=1) (by omega) (by omega)
        exact this
       have w4:IntKind.wrap .i64 (((n+1:Nat):Int)+1)=((n+1+1:Nat):Int):=vL (n:=n+1+1) (by omega)
       have step:aL (aR AP.A) bq AP.f49L0 (ay [(0,.aD c.f 0),(1,wq l),(5,I (v* 2:Nat)),(6,I (vR l (n+1))),(7,I (flat l n).length),(8,I (n+1:Nat))] [0,1,5,6,7,8]) h=some (.normal,[(0,.aD c.f 0),(1,wq l),(5,I ((v* 2+x)* 2:Nat)),(6,I (vR l (n+1+1))),(7,I (flat l (n+1)).length),(8,I (n+1+1:Nat))],h1):=by
        rw[hrb]
        clear hrb hfd
        generalize nK 17 (NP l)=T at *
        generalize (flat l n).length=FL at *
        generalize (flat l (n+1)).length=FL1 at *
        generalize vR l (n+1)=FC1 at *
        generalize vR l (n+1+1)=FC2 at *
        generalize (v* 2+x)* 2=VV at *
        generalize v* 2+x=VX at *
        generalize v* 2=V2 at *
        rw[he]at gf gf1
        simp only[I]at *
        simp only[AP.f49L0,go_sem,XS c1,gf,k1,o1,gf1,a1,g1,w1,XP hlt,w2,w3,s1,s2,w4]
       have hv2:v* 2+x<2^(n+1):=by rw[Nat.pow_succ];omega
       obtain⟨h',S',q1,q2,q3⟩:=Gq l hl k (n+1) (v* 2+x) _ h1 ov (by omega) hv2 (by rw[hf2];omega) k2 he
       refine⟨h',S',q1,k3.trans q2, ?_⟩
       dsimp only at q3 ⊢
       cases hy:xX c.text l k (n+1+1) (v* 2+x) (S.at_+1)with
       | none =>
         rw[hy]at q3
         rcases q3 with ⟨q3,e',q4,q5⟩|⟨q3,e',q4,q5⟩
         · exact .inl ⟨q3,e',tN step q4,q5⟩
         · exact .inr ⟨q3,e',tN step q4,q5⟩
       | some yp =>
         rw[hy]at q3
         obtain⟨q3,e',q4,q5⟩:=q3
         exact⟨q3,e',tN step q4,q5⟩
   · have eg:wC c 1 S=(0,{S with e:=700}):=by rw[wC,if_neg hat,v8,if_pos he]
     rw[eg]at k1 k2
     dsimp only at k1 k2
     have gf1:=k2.gf
     dsimp only at gf1
     rw[xX,if_neg hat]
     have o1:bits .or .i64 ((v* 2:Nat):Int) ((0:Nat):Int)=((v* 2:Nat):Int):=by rw[Eo (by omega) (by omega)];simp
     refine⟨h1,_,k2,k3,.inr ⟨rfl,[(4,I (-1))],uh ?_,rfl⟩⟩
     rw[he]at gf
     generalize v* 2=V2 at *
     simp only[I]at *
     simp only[AP.f49L0,go_sem,XS c1,gf,k1,o1,gf1]
theorem Dw {c:FC} {S:SS} {h:H} {ov:AV} (l:List Int) (hl:l.length<1000) (st:Ft c S h ov) (he:S.e=0):
 ∃ h' S' y, aR AP.A 49 [.aD c.f 0, wq l] h = some (I y, h') ∧ Ft c S' h' ov ∧ FF c h ov h' ov ∧ match xX c.text l 15 1 0 S.at_ with
   |some (z,p)=>S'={S with at_:=p}∧y=z
   |none=>S'.e=700∧y= -1:=by
 obtain⟨h1,S1,q1,q2,q3⟩:=Gq l hl 15 0 0 S h ov (by omega) (by simp) (by simp [vR,xw]) st he
 have conv:∀r,Lp AP.A [0,1,5,6,7,8] AP.f49L0 [(0,.aD c.f 0),(1,wq l),(5,I (0* 2:Nat)),(6,I (vR l (0+1))),(7,I (flat l 0).length),(8,I (0+1:Nat))] h=r→Lp AP.A [0,1,5,6,7,8] AP.f49L0 [(0,.aD c.f 0),(1,wq l),(5,I 0),(6,I 0),(7,I 0),(8,I 1)] h=r:=by
  intro r hr
  have h1:vR l (0+1)=0:=by simp [vR,xw]
  rw[h1]at hr
  exact hr
 cases hy:xX c.text l 15 1 0 S.at_ with
 | some yp =>
   have hy':xX c.text l 15 (0+1) 0 S.at_=some yp:=hy
   rw[hy']at q3
   obtain⟨q3,e',q4,q5⟩:=q3
   refine⟨h1,S1,yp.1, ?_,q1,q2,q3,rfl⟩
   have q6:=conv _ q4
   clear q4
   refine tZ (fn:=AP.f49) (e:=e') (vs:=[I yp.1]) rfl rfl rfl ?_ (by simp only[AP.f49,cw,nC,q5];rfl)
   simp only[I]at *
   simp only[AP.f49,go_sem,sG,q6]
 | none =>
   have hy':xX c.text l 15 (0+1) 0 S.at_=none:=hy
   rw[hy']at q3
   rcases q3 with ⟨q3,e',q4,q5⟩|⟨q3,e',q4,q5⟩
   · have q6:=conv _ q4
     clear q4
     obtain⟨h2,r1,r2,r3⟩:=y7 q1
     refine⟨h2,v8 700 S1,-1, ?_,r2,q2.trans r3,by simp [v8,q3],rfl⟩
     refine tZ (fn:=AP.f49) (e:=[(4,I (-1))]) rfl rfl rfl ?_ rfl
     simp only[I]at *
     simp only[AP.f49,go_sem,sG,q6,q5,r1]
   · have q6:=conv _ q4
     clear q4
     refine⟨h1,S1,-1, ?_,q1,q2,q3,rfl⟩
     refine tZ (fn:=AP.f49) (e:=e') (vs:=[I (-1)]) rfl rfl rfl ?_ (by simp only[AP.f49,cw,nC,q5];rfl)
     simp only[I]at *
     simp only[AP.f49,go_sem,sG,q6]
theorem Fc (h:H) (y:Nat) (hy:y<1000000):aR AP.A 50 [I y] h=some (zO (lenOf y),h):=by
 by_cases c1:y≤256
 · rw[lenOf,if_pos (.inl c1)]
   refine uz (fn:=AP.f50) (h2:=h.dN) (e:=[(2,I 0),(3,I 0),(4,I 600)]) rfl rfl rfl ?_ rfl rfl
   have c1':(y:Int)<257:=by omega
   simp only[I]at *
   simp only[AP.f50,go_sem,XS c1']
 have c1':¬(y:Int)<257:=by omega
 by_cases c2:285<y
 · rw[lenOf,if_pos (.inr c2)]
   refine uz (fn:=AP.f50) (h2:=h.dN) (e:=[(2,I 0),(3,I 0),(4,I 600)]) rfl rfl rfl ?_ rfl rfl
   have c2':(285:Int)<y:=by omega
   simp only[I]at *
   simp only[AP.f50,go_sem,XP c1',XS c2']
 have c2':¬(285:Int)<y:=by omega
 rw[lenOf,if_neg (by omega)]
 by_cases c3:y=285
 · rw[if_pos c3]
   refine uz (fn:=AP.f50) (h2:=h.dN) (e:=[(2,I 258),(3,I 0),(4,I 0)]) rfl rfl rfl ?_ rfl rfl
   have c3':((y:Int)==285)=true:=uI (by omega)
   simp only[I]at *
   simp only[AP.f50,go_sem,XP c1',XP c2',c3']
 rw[if_neg c3]
 have c3':((y:Int)==285)=false:=uH (by omega)
 by_cases c4:y<265
 · rw[if_pos c4]
   refine uz (fn:=AP.f50) (h2:=h.dN) (e:=[(2,I (y-254:Nat)),(3,I 0),(4,I 0)]) rfl rfl rfl ?_ rfl rfl
   have c4':(y:Int)<265:=by omega
   have w3:IntKind.wrap .i64 ((y:Int)-254)=((y-254:Nat):Int):=by rw[show(y:Int)-254=((y-254:Nat):Int)by omega];exact vL (by omega)
   simp only[I]at *
   simp only[AP.f50,go_sem,XP c1',XP c2',c3',XS c4',w3]
 rw[if_neg c4]
 have c4':¬(y:Int)<265:=by omega
 obtain⟨k,hk⟩:∃k:Nat,y-261=k:=⟨_,rfl⟩
 have w1:IntKind.wrap .i64 ((y:Int)-261)=(k:Int):=by rw[show(y:Int)-261=(k:Int)by omega];exact vL (by omega)
 rw[show(y-257)/4-1=k/4-0 by omega,Nat.sub_zero,show(y-257)%4=k%4 by omega]
 have q1:bj .quo (.int .i64 (k:Int)) (.int .i64 4)=some (.int .i64 ((k/4:Nat):Int)):=by
  rw[sg _ _ _ (by omega),show(4:Int)=((4:Nat):Int)from rfl,yw,vL (by omega)]
 have q2:bj .rem (.int .i64 (k:Int)) (.int .i64 4)=some (.int .i64 ((k%4:Nat):Int)):=by
  rw[sh _ _ _ (by omega),show(4:Int)=((4:Nat):Int)from rfl,AX]
 have w4:IntKind.wrap .i64 (4+((k%4:Nat):Int))=((4+k%4:Nat):Int):=by rw[show 4+((k%4:Nat):Int)=((4+k%4:Nat):Int)by omega];exact vL (by omega)
 have hp:2^(k/4)≤2^5:=XY (by omega) (by omega)
 have hm:(4+k%4)* 2^(k/4)≤7* 2^5:=Yx (by omega) hp
 have q3:pF .shl .i64 ((4+k%4:Nat):Int) ((k/4:Nat):Int)=some (.int .i64 (((4+k%4)* 2^(k/4):Nat):Int)):=ym (by omega) (by omega)
 generalize (4+k%4)* 2^(k/4)=P at *
 have w5:IntKind.wrap .i64 (3+(P:Int))=((3+P:Nat):Int):=by rw[show 3+(P:Int)=((3+P:Nat):Int)by omega];exact vL (by omega)
 refine uz (fn:=AP.f50) (h2:=h.dN) (e:=[(2,I (3+P:Nat)),(3,I (k/4:Nat)),(4,I 0)]) rfl rfl rfl ?_ rfl rfl
 simp only[I]at *
 simp only[AP.f50,go_sem,XP c1',XP c2',c3',XP c4',w1,q1,q2,w4,q3,w5]
theorem Dr (h:H) (y:Nat) (hy:y<1000000):aR AP.A 51 [I y] h=some (zO (wu y),h):=by
 have c0:¬(y:Int)<0:=by omega
 by_cases c1:30≤y
 · rw[wu,if_pos c1]
   refine uz (fn:=AP.f51) (h2:=h.dN) (e:=[(2,I 0),(3,I 0),(4,I 600)]) rfl rfl rfl ?_ rfl rfl
   have c1':(29:Int)<y:=by omega
   simp only[I]at *
   simp only[AP.f51,go_sem,XP c0,XS c1']
 have c1':¬(29:Int)<y:=by omega
 rw[wu,if_neg c1]
 by_cases c2:y<4
 · rw[if_pos c2]
   refine uz (fn:=AP.f51) (h2:=h.dN) (e:=[(2,I (1+y:Nat)),(3,I 0),(4,I 0)]) rfl rfl rfl ?_ rfl rfl
   have c2':(y:Int)<4:=by omega
   have w3:IntKind.wrap .i64 ((y:Int)+1)=((1+y:Nat):Int):=by rw[show(y:Int)+1=((1+y:Nat):Int)by omega];exact vL (by omega)
   simp only[I]at *
   simp only[AP.f51,go_sem,XP c0,XP c1',XS c2',w3]
 rw[if_neg c2]
 have c2':¬(y:Int)<4:=by omega
 have w1:IntKind.wrap .i64 ((y:Int)-2)=((y-2:Nat):Int):=by rw[show(y:Int)-2=((y-2:Nat):Int)by omega];exact vL (by omega)
 have q1:bj .quo (.int .i64 ((y-2:Nat):Int)) (.int .i64 2)=some (.int .i64 ((y/2-1:Nat):Int)):=by
  rw[sg _ _ _ (by omega),show(2:Int)=((2:Nat):Int)from rfl,yw,vL (by omega),show(y-2)/2=y/2-1 by omega]
 have q2:bj .rem (.int .i64 (y:Int)) (.int .i64 2)=some (.int .i64 ((y%2:Nat):Int)):=by
  rw[sh _ _ _ (by omega),show(2:Int)=((2:Nat):Int)from rfl,AX]
 have w4:IntKind.wrap .i64 (2+((y%2:Nat):Int))=((2+y%2:Nat):Int):=by rw[show 2+((y%2:Nat):Int)=((2+y%2:Nat):Int)by omega];exact vL (by omega)
 have hp:2^(y/2-1)≤2^13:=XY (by omega) (by omega)
 have hm:(2+y%2)* 2^(y/2-1)≤3* 2^13:=Yx (by omega) hp
 have q3:pF .shl .i64 ((2+y%2:Nat):Int) ((y/2-1:Nat):Int)=some (.int .i64 (((2+y%2)* 2^(y/2-1):Nat):Int)):=ym (by omega) (by omega)
 generalize (2+y%2)* 2^(y/2-1)=P at *
 have w5:IntKind.wrap .i64 (1+(P:Int))=((1+P:Nat):Int):=by rw[show 1+(P:Int)=((1+P:Nat):Int)by omega];exact vL (by omega)
 refine uz (fn:=AP.f51) (h2:=h.dN) (e:=[(2,I (1+P:Nat)),(3,I (y/2-1:Nat)),(4,I 0)]) rfl rfl rfl ?_ rfl rfl
 simp only[I]at *
 simp only[AP.f51,go_sem,XP c0,XP c1',XP c2',w1,q1,q2,w4,q3,w5]
theorem zt {c:FC} {S:SS} {h:H} {ov:AV} (st:Ft c S h ov) (n i:Nat) (hs:n≤i∨(i<n∧S.e≠0)):
 ∃e',Lp AP.A [0,2,4] AP.f19L0 [(0,.aD c.f 0),(2,I n),(4,I i)] h=some (.exit 0,e',h):=by
 have gf:=st.gf
 refine⟨[(0,.aD c.f 0),(2,I n),(4,I i),(36,.bool false)],tM ?_⟩
 rcases hs with hn|⟨hn,he⟩
 · have c1:¬(i:Int)<n:=by omega
   simp only[I]at *
   simp only[AP.f19L0,go_sem,XP c1]
 · have c1:(i:Int)<n:=by omega
   have c2:=uH he
   simp only[I]at *
   simp only[AP.f19L0,go_sem,XS c1,gf,c2]
theorem D6 {c : FC} (n : Nat) (hn : n ≤ 65535) : ∀ (m i : Nat) (S : SS) (h : H) (ov : AV), i + m = n → Ft c S h ov → S.e = 0 →
 ∃e' h' ov' S',Lp AP.A [0,2,4] AP.f19L0 [(0,.aD c.f 0),(2,I n),(4,I i)] h=some (.exit 0,e',h')∧Ft c S' h' ov'∧FF c h ov h' ov'∧Fin (xp c.text c.most m S.at_ S.out) S'
 | 0, i, S, h, ov, hm, st, he => by
   obtain⟨e',q⟩:=zt st n i (.inl (by omega))
   exact⟨e',h,ov,S,q,st,FF.refl _ _ _,by simp only[xp,Fin];cases S;simp_all⟩
 | m + 1, i, S, h, ov, hm, st, he => by
   have gf:=st.gf
   obtain⟨h1,k1,k2,k3⟩:=yO st 8 8 rfl (by omega)
   have c1:(i:Int)<n:=by omega
   have w1:IntKind.wrap .i64 ((i:Int)+1)=((i+1:Nat):Int):=vL (n:=i+1) (by omega)
   by_cases hp:S.at_+8≤8* c.text.size
   · have eg:wC c 8 S=(vP c.text S.at_ 8,{S with at_:=S.at_+8}):=by rw[wC,if_pos hp]
     rw[eg]at k1 k2
     dsimp only at k1 k2
     have gf1:=k2.gf
     obtain⟨h2,ov2,S2,p1,p2,p3,p4⟩:=Kf k2 he (vP c.text S.at_ 8)
     have hb:=wQ c.text S.at_ 8
     have w2:IntKind.wrap .u8 ((vP c.text S.at_ 8:Nat):Int)=((vP c.text S.at_ 8:Nat):Int):=wrap_u8 (by simpa using hb)
     have step:aL (aR AP.A) bq AP.f19L0 (ay [(0,.aD c.f 0),(2,I n),(4,I i)] [0,2,4]) h=some (.normal,[(0,.aD c.f 0),(2,I n),(4,I (i+1:Nat))],h2):=by
      dsimp only at gf1
      rw[he]at gf gf1
      simp only[I]at *
      simp only[AP.f19L0,go_sem,XS c1,gf,k1,gf1,w2,p1,w1]
     rw[xp,if_pos hp]
     dsimp only at p4
     by_cases hm':c.most≤S.out.length
     · rw[if_pos hm']at p4 ⊢
       have he2:S2.e=701:=by rw[p4]
       have hs:n≤i+1∨(i+1<n∧S2.e≠0):=by
        by_cases q:i+1<n
        · exact .inr ⟨q,by rw[he2];decide⟩
        · exact .inl (by omega)
       obtain⟨e',q⟩:=zt p2 n (i+1) hs
       exact⟨e',h2,ov2,_,tN step q,p2,k3.trans p3,he2,by decide⟩
     · rw[if_neg hm']at p4 ⊢
       subst p4
       obtain⟨e',h',ov',S',q1,q2,q3,q4⟩:=D6 n hn m (i+1) _ h2 ov2 (by omega) p2 rfl
       exact⟨e',h',ov',S',tN step q1,q2,(k3.trans p3).trans q3,q4⟩
   · have eg:wC c 8 S=(0,{S with e:=700}):=by rw[wC,if_neg hp,v8,if_pos he]
     rw[eg]at k1 k2
     dsimp only at k1 k2
     have gf1:=k2.gf
     have step:aL (aR AP.A) bq AP.f19L0 (ay [(0,.aD c.f 0),(2,I n),(4,I i)] [0,2,4]) h=some (.normal,[(0,.aD c.f 0),(2,I n),(4,I (i+1:Nat))],h1):=by
      dsimp only at gf1
      rw[he]at gf
      simp only[I]at *
      simp only[AP.f19L0,go_sem,XS c1,gf,k1,gf1,w1]
     rw[xp,if_neg hp]
     have hs:n≤i+1∨(i+1<n∧(700:Int)≠0):=by
      by_cases q:i+1<n
      · exact .inr ⟨q,by decide⟩
      · exact .inl (by omega)
     obtain⟨e',q⟩:=zt k2 n (i+1) hs
     exact⟨e',h1,ov,_,tN step q,k2,k3,rfl,by decide⟩
theorem EG {a b:Nat} (ha:a<65536) (hb:b<65536):bits .xor .i64 (a:Int) (b:Int)=((a^^^b:Nat):Int):=by
 have h3:a^^^b<2^16:=Nat.xor_lt_two_pow (by simpa using ha) (by simpa using hb)
 show IntKind.wrap .i64 (((BitVec.ofInt 64 (a:Int)^^^BitVec.ofInt 64 (b:Int)).toNat:Nat):Int)=_
 rw[BitVec.toNat_xor,ze 64 a (by omega),ze 64 b (by omega)]
 exact vL (by omega)
theorem H3 {n:Nat} (hn:n<65536):n^^^65535=65535-n:=by
 have h1:=JQ hn
 have h2:=EG hn (b:=65535) (by omega)
 rw[show((65535:Nat):Int)=65535 from rfl,h1]at h2
 omega
theorem LC {a b:Nat} (ha:a<65536) (hb:b<65536):a^^^b=65535↔a+b=65535:=by
 have h1:=H3 ha
 constructor
 · intro h
   have:b=a^^^65535:=by rw[←h,←Nat.xor_assoc,Nat.xor_self,Nat.zero_xor]
   omega
 · intro h
   have:b=a^^^65535:=by omega
   rw[this,←Nat.xor_assoc,Nat.xor_self,Nat.zero_xor]
theorem Dz (c:FC) (n:Nat) (S:SS) (h:S.e=0∨S.e=700):(wC c n S).2.e=0∨(wC c n S).2.e=700:=by
 unfold wC;split
 · exact h
 · rcases h with h|h<;>simp [v8,h]
theorem Hu (c:FC) (S:SS) (n:Nat) (hn:n≤16):(wC c n S).1<65536:=by
 unfold wC;split
 · have:=wQ c.text S.at_ n
   have:=XY (show 0<2 by omega) hn
   simp at *;omega
 · simp
theorem L6 {c : FC} {S : SS} {h : H} {ov : AV} (st : Ft c S h ov) (he : S.e = 0) :
 ∃h' ov' S',aR AP.A 19 [.aD c.f 0] h=some (.bM [],h')∧Ft c S' h' ov'∧FF c h ov h' ov'∧Fin (xV c.text c.most S.at_ S.out) S':=by
 obtain⟨h1,a1,a2,a3⟩:=Nb st
 obtain⟨p,hp⟩:∃p,p=(S.at_+7)/8* 8:=⟨_,rfl⟩
 rw[←hp]at a2
 have hS:xV c.text c.most S.at_ S.out=if p+32≤8* c.text.size then(if vP c.text p 16+vP c.text (p+16) 16=65535 then xp c.text c.most (vP c.text p 16) (p+32) S.out else .error 700)else .error 700:=by
  rw[hp];rfl
 rw[hS];clear hS
 obtain⟨h2,b1,b2,b3⟩:=yO a2 16 16 rfl (by omega)
 obtain⟨h3,d1,d2,d3⟩:=yO b2 16 16 rfl (by omega)
 obtain⟨n,hn⟩:∃n,n=(wC c 16 {S with at_:=p}).1:=⟨_,rfl⟩
 obtain⟨S2,hS2⟩:∃n,n=(wC c 16 {S with at_:=p}).2:=⟨_,rfl⟩
 obtain⟨m,hm⟩:∃n,n=(wC c 16 S2).1:=⟨_,rfl⟩
 obtain⟨S3,hS3⟩:∃n,n=(wC c 16 S2).2:=⟨_,rfl⟩
 rw[←hn]at b1;rw[←hS2]at b2 d1 d2;rw[←hm]at d1;rw[←hS3]at d2
 have hn16:n<65536:=hn ▸ Hu c _ 16 (by omega)
 have hm16:m<65536:=hm ▸ Hu c _ 16 (by omega)
 have x1:=EG hn16 hm16
 have gf3:=d2.gf
 by_cases h32:p+32≤8* c.text.size
 · have e2:wC c 16 {S with at_:=p}=(vP c.text p 16,{S with at_:=p+16}):=by rw[wC,if_pos (by show p+16≤_;omega)]
   rw[e2]at hn hS2;dsimp only at hn hS2;subst hS2
   have e3:wC c 16 {S with at_:=p+16}=(vP c.text (p+16) 16,{S with at_:=p+16+16}):=by rw[wC,if_pos (by show p+16+16≤_;omega)]
   rw[e3]at hm hS3;dsimp only at hm hS3;subst hS3
   dsimp only at gf3
   rw[he]at gf3
   rw[if_pos h32,←hn,←hm]
   by_cases hx:n+m=65535
   · rw[if_pos hx]
     have c1:(((n^^^m:Nat):Int) !=65535)=false:=uJ (by have:=(LC hn16 hm16).2 hx;omega)
     obtain⟨e',h',ov',S',q1,q2,q3,q4⟩:=D6 n (by omega) n 0 _ h3 ov (by omega) d2 he
     have q1':Lp AP.A [0,2,4] AP.f19L0 [(0,.aD c.f 0),(2,I n),(4,I 0)] h3=some (.exit 0,e',h'):=q1
     clear q1
     refine⟨h',ov',S', ?_,q2,((a3.trans b3).trans d3).trans q3,q4⟩
     refine wF (fn:=AP.f19) (e:=[]) (vs:=[]) rfl rfl rfl ?_ rfl
     simp only[I]at *
     simp only[AP.f19,go_sem,sG,a1,b1,d1,gf3,x1,c1,q1']
   · rw[if_neg hx]
     have c1:(((n^^^m:Nat):Int) !=65535)=true:=uK (fun e=>hx ((LC hn16 hm16).1 (by omega)))
     obtain⟨h4,f1,f2,f3⟩:=y7 d2
     have he4:(v8 700 {S with at_:=p+16+16}).e=700:=by simp [v8,he]
     have hs:n≤0∨(0<n∧(v8 700 {S with at_:=p+16+16}).e≠0):=by
      by_cases q:0<n
      · exact .inr ⟨q,by rw[he4];decide⟩
      · exact .inl (by omega)
     obtain⟨e',q⟩:=zt f2 n 0 hs
     have q':Lp AP.A [0,2,4] AP.f19L0 [(0,.aD c.f 0),(2,I n),(4,I 0)] h4=some (.exit 0,e',h4):=q
     clear q
     refine⟨h4,ov,_, ?_,f2,((a3.trans b3).trans d3).trans f3,he4,by decide⟩
     refine wF (fn:=AP.f19) (e:=[]) (vs:=[]) rfl rfl rfl ?_ rfl
     simp only[I]at *
     simp only[AP.f19,go_sem,sG,a1,b1,d1,gf3,x1,c1,f1,q']
 · rw [if_neg h32]
   have he3:S3.e=700:=by
    rw[hS3,hS2]
    unfold wC
    by_cases q1:p+16≤8* c.text.size
    · simp only[if_pos q1]
      rw[if_neg (by omega)];simp [v8,he]
    · simp only[if_neg q1,v8,he,if_true]
      split<;>simp
   have c0:(S3.e==0)=false:=uH (by rw[he3];decide)
   have hs:n≤0∨(0<n∧S3.e≠0):=by
    by_cases q:0<n
    · exact .inr ⟨q,by rw[he3];decide⟩
    · exact .inl (by omega)
   obtain⟨e',q⟩:=zt d2 n 0 hs
   have q':Lp AP.A [0,2,4] AP.f19L0 [(0,.aD c.f 0),(2,I n),(4,I 0)] h3=some (.exit 0,e',h3):=q
   clear q
   refine⟨h3,ov,S3, ?_,d2,(a3.trans b3).trans d3,he3,by decide⟩
   refine wF (fn:=AP.f19) (e:=[]) (vs:=[]) rfl rfl rfl ?_ rfl
   simp only[I]at *
   simp only[AP.f19,go_sem,sG,a1,b1,d1,gf3,c0,q']
theorem A5 {c:FC} {S:SS} {h:H} {ov:AV} (st:Ft c S h ov) (a b:AV) (n d i:Nat) (hs:n≤i∨(i<n∧S.e≠0)):
 ∃e',Lp AP.A [0,1,2,10,14,15] AP.f20L0 [(0,.aD c.f 0),(1,a),(2,b),(10,I n),(14,I d),(15,I i)] h=some (.exit 2,e',h)∧look e' 0=.aD c.f 0∧look e' 1=a∧look e' 2=b:=by
 have gf:=st.gf
 refine⟨[(0,.aD c.f 0),(1,a),(2,b),(10,I n),(14,I d),(15,I i),(107,.bool false)],tM ?_,rfl,rfl,rfl⟩
 rcases hs with hn|⟨hn,he⟩
 · have c1:¬(i:Int)<n:=by omega
   simp only[I]at *
   simp only[AP.f20L0,go_sem,XP c1]
 · have c1:(i:Int)<n:=by omega
   have c2:=uH he
   simp only[I]at *
   simp only[AP.f20L0,go_sem,XS c1,gf,c2]
theorem EX {c : FC} (a b : AV) (d : Nat) (hd : 0 < d) (n : Nat) (hn : n ≤ 65535) : ∀ (m i : Nat) (S : SS) (h : H) (ov : AV), i + m = n → Ft c S h ov → S.e = 0 → d ≤ S.out.length →
 ∃ e' h' ov' S', Lp AP.A [0, 1, 2, 10, 14, 15] AP.f20L0 [(0, .aD c.f 0), (1, a), (2, b), (10, I n), (14, I d), (15, I i)] h = some (.exit 2, e', h') ∧ look e' 0 = .aD c.f 0 ∧ look e' 1 = a ∧ look e' 2 = b ∧ Ft c S' h' ov' ∧ FF c h ov h' ov' ∧ match ya c.most d m S.out with
   | .ok o=>S'={S with out:=o}
   | .error k=>S'.e=k∧k≠0
 | 0, i, S, h, ov, hm, st, he, hl => by
   obtain⟨e',q,q2⟩:=A5 st a b n d i (.inl (by omega))
   exact⟨e',h,ov,S,q,q2.1,q2.2.1,q2.2.2,st,FF.refl _ _ _,by simp only[ya]⟩
 | m + 1, i, S, h, ov, hm, st, he, hl => by
   have gf:=st.gf
   have hol:=st.ol
   have hml:=st.ml
   have ln:=st.own.len
   rw[yN]at ln
   have c1:(i:Int)<n:=by omega
   have w1:IntKind.wrap .i64 ((i:Int)+1)=((i+1:Nat):Int):=vL (n:=i+1) (by omega)
   have w2:IntKind.wrap .i64 ((S.out.length:Int)-d)=((S.out.length-d:Nat):Int):=by rw[show(S.out.length:Int)-d=((S.out.length-d:Nat):Int)by omega];exact vL (by omega)
   have hb:=KN (l:=S.out) (i:=S.out.length-d) (by omega)
   obtain⟨id,i1,i2,i3⟩:=st.own.elem hb
   obtain⟨h2,ov2,S2,p1,p2,p3,p4⟩:=Kf st he (S.out.getD (S.out.length-d) 0)
   have step:aL (aR AP.A) bq AP.f20L0 (ay [(0,.aD c.f 0),(1,a),(2,b),(10,I n),(14,I d),(15,I i)] [0,1,2,10,14,15]) h=some (.normal,[(0,.aD c.f 0),(1,a),(2,b),(10,I n),(14,I d),(15,I (i+1:Nat))],h2):=by
    clear i1
    rw[he]at gf
    simp only[I]at *
    simp only[AP.f20L0,go_sem,XS c1,gf,ln,w2,i2,i3,hb,p1,w1]
   rw[ya]
   by_cases hm':c.most≤S.out.length
   · rw[if_pos hm']at p4 ⊢
     have he2:S2.e=701:=by rw[p4]
     have hs:n≤i+1∨(i+1<n∧S2.e≠0):=by
      by_cases q:i+1<n
      · exact .inr ⟨q,by rw[he2];decide⟩
      · exact .inl (by omega)
     obtain⟨e',q,q2⟩:=A5 p2 a b n d (i+1) hs
     exact⟨e',h2,ov2,_,tN step q,q2.1,q2.2.1,q2.2.2,p2,p3,he2,by decide⟩
   · rw[if_neg hm']at p4 ⊢
     subst p4
     obtain⟨e',h',ov',S',q1,q2,q3,q4,q5,q6,q7⟩:=EX a b d hd n hn m (i+1) _ h2 ov2 (by omega) p2 rfl (by simp;omega)
     refine⟨e',h',ov',S',tN step q1,q2,q3,q4,q5,p3.trans q6, ?_⟩
     dsimp only at q7 ⊢
     rw[he]
     exact q7
theorem At {c:FC} {S:SS} {h:H} {ov:AV} (st:Ft c S h ov) (a b:AV) (hs:S.e≠0):
 ∃e',Lp AP.A [0,1,2] AP.f20L1 [(0,.aD c.f 0),(1,a),(2,b)] h=some (.exit 0,e',h):=by
 have gf:=st.gf
 refine⟨[(0,.aD c.f 0),(1,a),(2,b),(20,.bool false)],tM ?_⟩
 have c2:=uH hs
 simp only[I]at *
 simp only[AP.f20L1,go_sem,gf,c2]
theorem Bv {c : FC} (ll dl : List Int) (hll : ll.length < 1000) (hdl : dl.length < 1000) : ∀ (k : Nat) (S : SS) (h : H) (ov : AV), Ft c S h ov → S.e = 0 → 8 * c.text.size < S.at_ + k →
 ∃e' h' ov' S',(Lp AP.A [0,1,2] AP.f20L1 [(0,.aD c.f 0),(1,wq ll),(2,wq dl)] h=some (.ret,e',h')∨Lp AP.A [0,1,2] AP.f20L1 [(0,.aD c.f 0),(1,wq ll),(2,wq dl)] h=some (.exit 0,e',h'))∧Ft c S' h' ov'∧FF c h ov h' ov'∧Fin (xy c.text c.most ll dl k S.at_ S.out) S'
 |0,S,h,ov,st,he,hk=>by have:=st.xY;omega
 | k + 1, S, h, ov, st, he, hk => by
   have gf:=st.gf
   rw[he]at gf
   obtain⟨h1,S1,z,s1,s2,s3,s4⟩:=Dw ll hll st he
   have gf1:=s2.gf
   rw[xy]
   cases hz:xX c.text ll 15 1 0 S.at_ with
   | none =>
     rw[hz]at s4
     obtain⟨s4,s5⟩:=s4
     have ce:(S1.e !=0)=true:=uK (by rw[s4];decide)
     refine⟨[(0,.aD c.f 0),(1,wq ll),(2,wq dl),(6,I z),(32,.bool true)],h1,ov,S1,.inl (uh ?_),s2,s3,s4,by decide⟩
     simp only[I]at *
     simp only[AP.f20L1,go_sem,gf,s1,gf1,ce]
   | some zp =>
     obtain⟨z2,p1⟩:=zp
     rw[hz]at s4
     obtain⟨s4,s5⟩:=s4
     subst s5 s4
     dsimp only at gf1
     rw[he]at gf1
     have zb:=yf hz
     obtain⟨y,hy⟩:∃n:Nat,z=n:=XT zb.1
     subst hy
     dsimp only
     by_cases c1:(y:Int)<256
     · rw[if_pos c1]
       have w1:IntKind.wrap .u8 (y:Int)=y:=wrap_u8 (by omega)
       have c256:((y:Int)==256)=false:=uH (by omega)
       obtain⟨h2,ov2,S2,p1',p2',p3',p4'⟩:=Kf s2 he y
       have step:aL (aR AP.A) bq AP.f20L1 (ay [(0,.aD c.f 0),(1,wq ll),(2,wq dl)] [0,1,2]) h=some (.normal,[(0,.aD c.f 0),(1,wq ll),(2,wq dl)],h2):=by
        simp only[I]at *
        simp only[AP.f20L1,go_sem,gf,s1,gf1,c256,XS c1,w1,p1']
       dsimp only at p4'
       by_cases hm:c.most≤S.out.length
       · rw[if_pos hm]at p4' ⊢
         have he2:S2.e=701:=by rw[p4']
         obtain⟨e',q⟩:=At p2' (wq ll) (wq dl) (by rw[he2];decide)
         exact⟨e',h2,ov2,_,.inr (tN step q),p2',s3.trans p3',he2,by decide⟩
       · rw[if_neg hm]at p4' ⊢
         subst p4'
         obtain⟨e',h',ov',S',q1,q2,q3,q4⟩:=Bv ll dl hll hdl k _ h2 ov2 p2' rfl (by dsimp only;omega)
         refine⟨e',h',ov',S', ?_,q2,(s3.trans p3').trans q3,q4⟩
         rcases q1 with q1|q1
         · exact .inl (tN step q1)
         · exact .inr (tN step q1)
     · rw [if_neg c1]
       by_cases c2:(y:Int)=256
       · rw[if_pos c2]
         refine⟨[(0,.aD c.f 0),(1,wq ll),(2,wq dl),(6,I y),(32,.bool true)],h1,ov,_,.inl (uh ?_),s2,s3, ?_⟩
         · have c2':=uI c2
           simp only[I]at *
           simp only[AP.f20L1,go_sem,gf,s1,gf1,c2']
         · simp only[Fin];rw[he]
       · rw [if_neg c2]
         have c256:=uH c2
         have lo:=Fc h1 y (by omega)
         rw[Yo]
         unfold yW
         have n600:((600:Int) !=0)=true:=rfl
         have n0:((0:Int) !=0)=false:=rfl
         cases hlo:lenOf y with
         | none =>
           rw[hlo]at lo
           obtain⟨h2,f1,f2,f3⟩:=y7 s2
           refine⟨[],h2,ov,_,.inl (uh ?_),f2,s3.trans f3,by simp [v8,he],by decide⟩
           simp only[I,zO]at *
           simp only[AP.f20L1,go_sem,gf,s1,gf1,c256,XP c1,lo,n600,f1]
         | some le =>
           obtain⟨least,extra⟩:=le
           rw[hlo]at lo
           obtain⟨b1,b2,b3⟩:=BB hlo
           obtain⟨h2,k1,k2,k3⟩:=yO s2 extra extra rfl (by omega)
           dsimp only
           by_cases hp:p1+extra≤8* c.text.size
           · have eg : wC c extra { S with at_ := p1 } = (vP c.text p1 extra, { S with at_ := p1 + extra }) := by rw [wC, if_pos hp]
             rw[eg]at k1 k2
             dsimp only at k1 k2
             rw[if_pos hp]
             have gf2:=k2.gf
             dsimp only at gf2
             rw[he]at gf2
             have hve:=wQ c.text p1 extra
             have hve2:2^extra≤2^5:=XY (by omega) b2
             have w1:IntKind.wrap .i64 ((least:Int)+(vP c.text p1 extra:Int))=((least+vP c.text p1 extra:Nat):Int):=by
              rw[show(least:Int)+(vP c.text p1 extra:Int)=((least+vP c.text p1 extra:Nat):Int)by omega];exact vL (by omega)
             obtain⟨h3,S3,z,s1',s2',s3',s4'⟩:=Dw dl hdl k2 he
             have gf3:=s2'.gf
             dsimp only at s4'
             cases hz2:xX c.text dl 15 1 0 (p1+extra)with
             | none =>
               rw[hz2]at s4'
               obtain⟨s4',s5'⟩:=s4'
               have ce3:(S3.e !=0)=true:=uK (by rw[s4'];decide)
               refine⟨[(0,.aD c.f 0),(1,wq ll),(2,wq dl),(10,I (least+vP c.text p1 extra:Nat)),(11,I z),(66,.bool true)],h3,ov,S3,.inl (uh ?_),s2',(s3.trans k3).trans s3',s4',by decide⟩
               simp only[I,zO]at *
               simp only[AP.f20L1,go_sem,gf,s1,gf1,c256,XP c1,lo,n0,k1,w1,gf2,s1',gf3,ce3]
             | some zp =>
               obtain⟨z2,p2⟩:=zp
               rw[hz2]at s4'
               obtain⟨s4',s5'⟩:=s4'
               subst s5' s4'
               have zb2:=yf hz2
               obtain⟨zn,hzn⟩:∃n:Nat,z=n:=XT zb2.1
               subst hzn
               have dob:=Dr h3 zn (by omega)
               dsimp only at gf3 ⊢
               rw[he]at gf3
               rw[Yo]
               cases hdo:wu zn with
               | none =>
                 rw[hdo]at dob
                 obtain⟨h4,f1,f2,f3⟩:=y7 s2'
                 refine⟨[],h4,ov,_,.inl (uh ?_),f2,((s3.trans k3).trans s3').trans f3,by simp [v8,he],by decide⟩
                 simp only[I,zO]at *
                 simp only[AP.f20L1,go_sem,gf,s1,gf1,c256,XP c1,lo,n0,k1,w1,gf2,s1',gf3,dob,n600,f1]
               | some lx =>
                 obtain⟨ld,xd⟩:=lx
                 rw[hdo]at dob
                 obtain⟨d1,d2,d3⟩:=AG hdo
                 obtain⟨h4,v1,v2,v3⟩:=yO s2' xd xd rfl (by omega)
                 obtain⟨x,hx⟩:∃x,x=(wC c xd {S with at_:=p2}).1:=⟨_,rfl⟩
                 obtain⟨S4,hS4⟩:∃x,x=(wC c xd {S with at_:=p2}).2:=⟨_,rfl⟩
                 rw[←hx]at v1;rw[←hS4]at v2
                 have hxb:x<65536:=hx ▸ Hu c _ xd (by omega)
                 have w2:IntKind.wrap .i64 ((ld:Int)+(x:Int))=((ld+x:Nat):Int):=by
                  rw[show(ld:Int)+(x:Int)=((ld+x:Nat):Int)by omega];exact vL (by omega)
                 have gf4:=v2.gf
                 have ln:=v2.own.len
                 rw[yN]at ln
                 have frs:=((s3.trans k3).trans s3').trans v3
                 dsimp only
                 have toLoop:∀(h5:H) (e6:Env) (h6:H),((S4.e=0∧S4.out.length<ld+x∧aR AP.A 25 [.aD c.f 0] h4=some (.bM [],h5))∨((S4.e≠0∨¬S4.out.length<ld+x)∧h5=h4))→Lp AP.A [0,1,2,10,14,15] AP.f20L0 [(0,.aD c.f 0),(1,wq ll),(2,wq dl),(10,I (least+vP c.text p1 extra:Nat)),(14,I (ld+x:Nat)),(15,I 0)] h5=some (.exit 2,e6,h6)→
                  look e6 0=.aD c.f 0→look e6 1=wq ll→look e6 2=wq dl→aL (aR AP.A) bq AP.f20L1 (ay [(0,.aD c.f 0),(1,wq ll),(2,wq dl)] [0,1,2]) h=some (.normal,[(0,.aD c.f 0),(1,wq ll),(2,wq dl)],h6):=by
                  intro h5 e6 h6 hcase q6 l0 l1 l2
                  rcases hcase with ⟨g1,g2,g3⟩|⟨g1,rfl⟩
                  · have g2':(S4.out.length:Int)<((ld+x:Nat):Int):=by omega
                    have g1':=uI g1
                    simp only[I,zO]at *
                    simp only[AP.f20L1,go_sem,gf,s1,gf1,c256,XP c1,lo,n0,k1,w1,gf2,s1',gf3,dob,v1,w2,gf4,g1',ln,XS g2',g3,sG,q6,l0,l1,l2]
                  · by_cases g3:S4.e=0
                    · have g2:¬S4.out.length<ld+x:=by
                       rcases g1 with q|q
                       · exact absurd g3 q
                       · exact q
                      have g2':¬(S4.out.length:Int)<((ld+x:Nat):Int):=by omega
                      have g1':=uI g3
                      clear g1
                      simp only[I,zO]at *
                      simp only[AP.f20L1,go_sem,gf,s1,gf1,c256,XP c1,lo,n0,k1,w1,gf2,s1',gf3,dob,v1,w2,gf4,g1',ln,XP g2',sG,q6,l0,l1,l2]
                    · have g1':=uH g3
                      clear g1
                      simp only[I,zO]at *
                      simp only[AP.f20L1,go_sem,gf,s1,gf1,c256,XP c1,lo,n0,k1,w1,gf2,s1',gf3,dob,v1,w2,gf4,g1',ln,sG,q6,l0,l1,l2]
                 by_cases hp2:p2+xd≤8* c.text.size
                 · have egx:wC c xd {S with at_:=p2}=(vP c.text p2 xd,{S with at_:=p2+xd}):=by rw[wC,if_pos hp2]
                   rw[egx]at hx hS4;dsimp only at hx hS4
                   subst hS4
                   rw[←hx]
                   by_cases hbk:S.out.length<ld+x
                   · rw[if_neg (fun q=>by omega)]
                     obtain⟨h5,f1,f2,f3⟩:=y7 v2
                     have he5:(v8 700 {S with at_:=p2+xd}).e=700:=by simp [v8,he]
                     obtain⟨e6,q6,q7,q8,q9⟩:=A5 f2 (wq ll) (wq dl) (least+vP c.text p1 extra) (ld+x) 0 (.inr ⟨by omega,by rw[he5];decide⟩)
                     have step:=toLoop h5 e6 h5 (.inl ⟨he,hbk,f1⟩) q6 q7 q8 q9
                     obtain⟨e',q⟩:=At f2 (wq ll) (wq dl) (by rw[he5];decide)
                     exact⟨e',h5,ov,_,.inr (tN step q),f2,frs.trans f3,he5,by decide⟩
                   · rw[if_pos ⟨hp2,by omega⟩]
                     obtain⟨e6,h6,ov6,S6,q1,q2,q3,q4,q5,q6,q7⟩:=EX (c:=c) (wq ll) (wq dl) (ld+x) (by omega) (least+vP c.text p1 extra) (by omega) (least+vP c.text p1 extra) 0 _ h4 ov (by omega) v2 he (by dsimp only;omega)
                     have step:=toLoop h4 e6 h6 (.inr ⟨.inr hbk,rfl⟩) q1 q2 q3 q4
                     dsimp only at q7
                     cases hcl:ya c.most (ld+x) (least+vP c.text p1 extra) S.out with
                     | error q =>
                       rw[hcl]at q7
                       obtain⟨e',q'⟩:=At q5 (wq ll) (wq dl) (by rw[q7.1];exact q7.2)
                       exact⟨e',h6,ov6,S6,.inr (tN step q'),q5,frs.trans q6,q7⟩
                     | ok o =>
                       rw[hcl]at q7
                       dsimp only at q7
                       subst q7
                       obtain⟨e',h',ov',S',r1,r2,r3,r4⟩:=Bv ll dl hll hdl k _ h6 ov6 q5 he (by dsimp only;omega)
                       refine⟨e',h',ov',S', ?_,r2,(frs.trans q6).trans r3,r4⟩
                       rcases r1 with r1|r1
                       · exact .inl (tN step r1)
                       · exact .inr (tN step r1)
                 · rw[if_neg (fun q=>hp2 q.1)]
                   have he4:S4.e=700:=by rw[hS4,wC,if_neg hp2];simp [v8,he]
                   obtain⟨e6,q6,q7,q8,q9⟩:=A5 v2 (wq ll) (wq dl) (least+vP c.text p1 extra) (ld+x) 0 (.inr ⟨by omega,by rw[he4];decide⟩)
                   have step:=toLoop h4 e6 h4 (.inr ⟨.inl (by rw[he4];decide),rfl⟩) q6 q7 q8 q9
                   obtain⟨e',q⟩:=At v2 (wq ll) (wq dl) (by rw[he4];decide)
                   exact⟨e',h4,ov,_,.inr (tN step q),v2,frs,he4,by decide⟩
           · have eg:wC c extra {S with at_:=p1}=(0,{S with at_:=p1,e:=700}):=by rw[wC,if_neg hp,v8,if_pos he]
             rw[eg]at k1 k2
             dsimp only at k1 k2
             rw[if_neg hp]
             have gf2:=k2.gf
             have w1:IntKind.wrap .i64 ((least:Int)+((0:Nat):Int))=((least:Nat):Int):=by
              rw[show(least:Int)+((0:Nat):Int)=((least:Nat):Int)by omega];exact vL (by omega)
             have n7:((700:Int) !=0)=true:=rfl
             refine⟨[(0,.aD c.f 0),(1,wq ll),(2,wq dl),(10,I least),(58,.bool true)],h2,ov,_,.inl (uh ?_),k2,s3.trans k3,rfl,by decide⟩
             simp only[I,zO]at *
             simp only[AP.f20L1,go_sem,gf,s1,gf1,c256,XP c1,lo,n0,k1,w1,gf2,n7]
theorem IG {c:FC} {S:SS} {h:H} {ov:AV} (ll dl:List Int) (hll:ll.length<1000) (hdl:dl.length<1000) (st:Ft c S h ov) (he:S.e=0):
 ∃h' ov' S',aR AP.A 20 [.aD c.f 0,wq ll,wq dl] h=some (.bM [],h')∧Ft c S' h' ov'∧FF c h ov h' ov'∧Fin (xy c.text c.most ll dl (8* c.text.size+1) S.at_ S.out) S':=by
 obtain⟨e',h',ov',S',q1,q2,q3,q4⟩:=Bv ll dl hll hdl (8* c.text.size+1) S h ov st he (by omega)
 refine⟨h',ov',S', ?_,q2,q3,q4⟩
 rcases q1 with q1|q1
 · refine tZ (fn:=AP.f20) (e:=e') (vs:=[]) rfl rfl rfl ?_ rfl
   simp only[AP.f20,go_sem,sG,q1]
 · refine wF (fn:=AP.f20) (e:=[]) (vs:=[]) rfl rfl rfl ?_ rfl
   simp only[AP.f20,go_sem,sG,q1]
theorem Ji (h:H):aR AP.A 32 [] h=some (wP vQ,h):=by
 have b:aY [] (.cD 1 19 [.int .i64 0] [(0,(.c (.int .i64 16))),(1,(.c (.int .i64 17))),(2,(.c (.int .i64 18))),(3,(.c (.int .i64 0))),(4,(.c (.int .i64 8))),(5,(.c (.int .i64 7))),(6,(.c (.int .i64 9))),(7,(.c (.int .i64 6))),(8,(.c (.int .i64 10))),(9,(.c (.int .i64 5))),(10,(.c (.int .i64 11))),(11,(.c (.int .i64 4))),(12,(.c (.int .i64 12))),(13,(.c (.int .i64 3))),(14,(.c (.int .i64 13))),(15,(.c (.int .i64 2))),(16,(.c (.int .i64 14))),(17,(.c (.int .i64 1))),(18,(.c (.int .i64 15)))])=some (ints vQ,fun i=>.aE i 0 19 1):=rfl
 refine uz (fn:=AP.f32) (h2:=h.dN.alloc (ints vQ)) (e:=[(0,.aE h.next 0 19 1)]) (vs:=[.aE h.next 0 19 1]) rfl rfl rfl ?_ rfl ?_
 · have hn:h.dN.next=h.next:=rfl
   simp only[AP.f32,go_sem,b,hn]
 · show snap (h.dN.alloc (ints vQ)).get h.next 16 true (.aE h.next 0 19 1)=_
   unfold snap
   rw[if_neg (by omega),H.aW,if_pos (show h.next=h.dN.next from rfl),vi,if_pos (by decide)]
   rw[show((ints vQ).drop 0).take (19* 1)=ints vQ from rfl,yA];rfl
theorem yi {h:H} {v:AV} {l:List Int} {fl:Nat} (o:nJ h v (ints l)) (hf:fl≤h.floor) (hl:l≠[]):snap h.get fl 16 true v=some (wP l):=by
 rcases o with ⟨_,q⟩|⟨id,rfl,q,h2,_⟩
 · exact absurd (List.map_eq_nil_iff.1 q) hl
 · unfold snap
   rw[if_neg (by omega),q,vi,if_pos (by omega)]
   rw[X9,Yy,List.take_length,yA]
   simp [wP]
def fixF (i:Nat):Int:=if 144≤i∧i<256 then 9 else if 256≤i∧i<280 then 7 else 8
theorem D4 : ∀ (m i : Nat) (h : H) (v : AV), i + m = 288 → nJ h v (ints ((List.range i).map fixF)) → h.floor ≤ h.next →
 ∃e' h' v',Lp AP.A [1,2] AP.f22L0 [(1,v),(2,I i)] h=some (.exit 0,e',h')∧look e' 1=v'∧nJ h' v' (ints ((List.range 288).map fixF))∧h'.floor=h.floor
 | 0, i, h, v, hm, o, hf => by
   obtain rfl:i=288:=by omega
   refine⟨[(1,v),(2,I 288),(5,.bool false)],h,v,tM ?_,rfl,o,rfl⟩
   have c1:¬(((288:Nat):Int)<288):=by omega
   simp only[I]at *
   simp only[AP.f22L0,go_sem,XP c1]
   rfl
 | m + 1, i, h, v, hm, o, hf => by
   have c1:(i:Int)<288:=by omega
   have w1:IntKind.wrap .i64 ((i:Int)+1)=((i+1:Nat):Int):=vL (n:=i+1) (by omega)
   obtain⟨g,hg⟩:∃g,g=h.alloc [I (fixF i)]:=⟨_,rfl⟩
   have og:nJ g v (ints ((List.range i).map fixF)):=o.mono (by rw[hg];simp) fun j hj=>by have:=o.lt hj;rw[hg,H.aW,if_neg (by omega)]
   have hgf:g.floor≤g.next:=by rw[hg];simp;omega
   obtain⟨v',h2,r1,r2,r3,r4,r5,r6⟩:=og.app hgf (z:=8) (I (fixF i)) rfl (by simp [roomy];omega)
   have src:aS g 1 (.aE h.next 0 1 1)=some (1,[I (fixF i)]):=by simp [aS,hg,H.aW]
   have ap:kM g 1 8 v (.aE h.next 0 1 1)=some (v',h2):=by unfold kM;rw[src,vi];exact r1
   have bt:∀e:Env,look e 21=.int .i64 (fixF i)→aY e (.cD 1 1 [.int .i64 0] [(0,.t 21)])=some ([.int .i64 (fixF i)],fun i=>.aE i 0 1 1):=by
    intro e q;simp only[aY,XX,Yk,sI,q];rfl
   have hr:ints ((List.range i).map fixF)++[I (fixF i)]=ints ((List.range (i+1)).map fixF):=by
    rw[List.range_succ,List.map_append,pX];rfl
   rw[hr]at r2
   have step:aL (aR AP.A) bq AP.f22L0 (ay [(1,v),(2,I i)] [1,2]) h=some (.normal,[(1,v'),(2,I (i+1:Nat))],h2):=by
    clear hr
    by_cases q1:144≤i
    · have d1:(144:Int)≤i:=by omega
      by_cases q2:i<256
      · have d2:(i:Int)<256:=by omega
        have hx:fixF i=9:=by rw[fixF,if_pos ⟨q1,q2⟩]
        rw[hx]at hg bt
        simp only[I]at *
        simp only[AP.f22L0,go_sem,XS c1,XS d1,XS d2]
        rw[bt _ rfl]
        simp only[go_sem,←hg,ap,w1]
      · have d2:¬(i:Int)<256:=by omega
        have d3:(256:Int)≤i:=by omega
        by_cases q3:i<280
        · have d4:(i:Int)<280:=by omega
          have hx:fixF i=7:=by rw[fixF,if_neg (by omega),if_pos ⟨by omega,q3⟩]
          rw[hx]at hg bt
          simp only[I]at *
          simp only[AP.f22L0,go_sem,XS c1,XS d1,XP d2,XS d3,XS d4]
          rw[bt _ rfl]
          simp only[go_sem,←hg,ap,w1]
        · have d4:¬(i:Int)<280:=by omega
          have hx:fixF i=8:=by rw[fixF,if_neg (by omega),if_neg (by omega)]
          rw[hx]at hg bt
          simp only[I]at *
          simp only[AP.f22L0,go_sem,XS c1,XS d1,XP d2,XS d3,XP d4]
          rw[bt _ rfl]
          simp only[go_sem,←hg,ap,w1]
    · have d1:¬(144:Int)≤i:=by omega
      have d3:¬(256:Int)≤i:=by omega
      have hx:fixF i=8:=by rw[fixF,if_neg (by omega),if_neg (by omega)]
      rw[hx]at hg bt
      simp only[I]at *
      simp only[AP.f22L0,go_sem,XS c1,XP d1,XP d3]
      rw[bt _ rfl]
      simp only[go_sem,←hg,ap,w1]
   obtain⟨e',h',v2,s1,s2,s3,s4⟩:=D4 m (i+1) h2 v' (by omega) r2 (by rw[r3];exact vG hgf r4)
   exact⟨e',h',v2,tN step s1,s2,s3,by rw[s4,r3,hg];simp⟩
theorem LZ:(List.range 288).map fixF=wy:=by decide+kernel
theorem IJ (h:H):aR AP.A 22 [] h=some (wP wy,h):=by
 obtain⟨e',h',v',s1,s2,s3,s4⟩:=D4 288 0 h.dN .aP rfl (.inl ⟨rfl,rfl⟩) (vm _)
 have s1':Lp AP.A [1,2] AP.f22L0 [(1,.aP),(2,I 0)] h.dN=some (.exit 0,e',h'):=s1
 clear s1
 rw[LZ]at s3
 refine uz (fn:=AP.f22) (h2:=h') (e:=[(0,v')]) (vs:=[v']) rfl rfl rfl ?_ rfl ?_
 · simp only[I]at *
   simp only[AP.f22,go_sem,sG,s1',s2]
 · exact yi s3 (by rw[s4];exact vm _) (by intro e;have:=Yh List.length e;rw[zZ]at this;simp at this)
theorem EY (id : Nat) : ∀ (m i : Nat) (h : H), i + m = 30 → h.get id = some (ints (List.replicate i 5 ++ List.replicate m 0)) → h.floor ≤ id →
 ∃e' h',Lp AP.A [1,2] AP.f23L0 [(1,.aE id 0 30 1),(2,I i)] h=some (.exit 0,e',h')∧look e' 1=.aE id 0 30 1∧h'.get id=some (ints (List.replicate 30 5))∧h'.floor=h.floor
 | 0, i, h, hm, hg, hf => by
   obtain rfl:i=30:=by omega
   refine⟨[(1,.aE id 0 30 1),(2,I 30),(5,.bool false)],h,tM ?_,rfl,hg,rfl⟩
   have c1:¬(((30:Nat):Int)<30):=by omega
   simp only[I]at *
   simp only[AP.f23L0,go_sem,XP c1]
   rfl
 | m + 1, i, h, hm, hg, hf => by
   have c1:(i:Int)<30:=by omega
   have w1:IntKind.wrap .i64 ((i:Int)+1)=((i+1:Nat):Int):=vL (n:=i+1) (by omega)
   have ia:fM 1 (.aE id 0 30 1) (I i)=some (.aD id i):=by simp [fM,kj (show i<30 by omega)]
   have hset:(ints (List.replicate i 5++List.replicate (m+1) 0)).set i (I 5)=ints (List.replicate (i+1) 5++List.replicate m 0):=by
    have h1:(List.replicate i (5:Int)++List.replicate (m+1) 0).set i 5=List.replicate (i+1) 5++List.replicate m 0:=by
     rw[Yn _ _ (by simp),X3,YB,List.replicate_succ,List.set_cons_zero,List.replicate_succ',XV];rfl
    rw[←h1];simp [ints,List.map_set]
   have hst:uD h id i 1 [I 5] (some (ints (List.replicate i 5++List.replicate (m+1) 0)))=some (h.set id (ints (List.replicate (i+1) 5++List.replicate m 0))):=by
    rw[uU hf (by rw[pY];simp) rfl,hset]
   have step:aL (aR AP.A) bq AP.f23L0 (ay [(1,.aE id 0 30 1),(2,I i)] [1,2]) h=some (.normal,[(1,.aE id 0 30 1),(2,I (i+1:Nat))],h.set id (ints (List.replicate (i+1) 5++List.replicate m 0))):=by
    clear hset
    generalize ints (List.replicate (i+1) 5++List.replicate m 0)=L1 at *
    generalize ints (List.replicate i 5++List.replicate (m+1) 0)=L0 at *
    simp only[I]at *
    simp only[AP.f23L0,go_sem,XS c1,ia,hg,hst,w1]
   obtain⟨e',h',s1,s2,s3,s4⟩:=EY id m (i+1) _ (by omega) (by rw[H.dp,if_pos rfl,hg];rfl) (by simpa using hf)
   exact⟨e',h',tN step s1,s2,s3,by rw[s4];simp⟩
theorem KZ (h:H):aR AP.A 23 [] h=some (wP (List.replicate 30 5),h):=by
 obtain⟨h1,hh1⟩:∃g,g=h.dN.alloc (ints (List.replicate 30 0)):=⟨_,rfl⟩
 have hg:h1.get h.next=some (ints (List.replicate 0 5++List.replicate 30 0)):=by rw[hh1,H.aW,if_pos (show h.next=h.dN.next from rfl)];rfl
 obtain⟨e',h',s1,s2,s3,s4⟩:=EY h.next 30 0 h1 rfl hg (by rw[hh1];simp)
 have s1':Lp AP.A [1,2] AP.f23L0 [(1,.aE h.next 0 30 1),(2,I 0)] h1=some (.exit 0,e',h'):=s1
 clear s1
 have bt:∀e:Env,aY e (.iR 1 8 [.int .i64 0] (.c (.int .i64 30)) (.c (.int .i64 30)))=some (ints (List.replicate 30 0),fun i=>.aE i 0 30 1):=fun _=>rfl
 have hn:h.dN.next=h.next:=rfl
 refine uz (fn:=AP.f23) (h2:=h') (e:=[(0,.aE h.next 0 30 1)]) (vs:=[.aE h.next 0 30 1]) rfl rfl rfl ?_ rfl ?_
 · simp only[I]at *
   simp only[AP.f23,go_sem,bt,←hh1,hn,sG,s1',s2]
 · exact yi (l:=List.replicate 30 5) (.inr ⟨h.next,rfl,s3,by rw[s4,hh1];simp,by decide⟩) (by rw[s4,hh1];simp) (by decide)
theorem GJ {x:AV} {l:List Int} (hl:l.length<100000) (h:H) (rd:Rd h x (ints l)):∀(q p:List Int),l=p++q→
 (∃e',Lp AP.A [0,3] AP.f67L0 [(0,x),(3,I p.length)] h=some (.exit 0,e',h)∧(ints q).any Bg=false)∨(∃e',Lp AP.A [0,3] AP.f67L0 [(0,x),(3,I p.length)] h=some (.ret,e',h)∧look e' 2=.bool false∧(ints q).any Bg=true)
 | [], p, hp => by
   have ln:=rd.len
   rw[pY]at ln
   left
   refine⟨[(0,x),(3,I p.length),(15,.bool false)],tM ?_,rfl⟩
   have c1:¬(p.length:Int)<(l.length:Int):=by rw[hp];simp
   simp only[I]at *
   simp only[AP.f67L0,go_sem,ln,XP c1]
 | y :: q, p, hp => by
   have ln:=rd.len
   rw[pY]at ln
   have hlen:l.length=p.length+(q.length+1):=by rw[hp];simp
   have c1:(p.length:Int)<(l.length:Int):=by omega
   have hv:(ints l)[p.length]?=some (I y):=tu (by rw[hp];simp)
   obtain⟨ad,p1,p2⟩:=rd.elem hv
   have p3:=p2 h (fun _ _ q=>q)
   have w1:IntKind.wrap .i64 ((p.length:Int)+1)=(((p++[y]).length:Nat):Int):=by
    rw[vI];exact vL (n:=p.length+1) (by omega)
   have hany:(ints (y::q)).any Bg=(Bg (I y)||(ints q).any Bg):=rfl
   rw[hany]
   by_cases d1:y<0
   · right
     refine⟨[(2,.bool false)],uh ?_,rfl,by simp [Bg,I,d1]⟩
     simp only[I]at *
     simp only[AP.f67L0,go_sem,ln,XS c1,p1,p3,XS d1]
   by_cases d2:15<y
   · right
     refine⟨[(2,.bool false)],uh ?_,rfl,by simp [Bg,I,d2]⟩
     simp only[I]at *
     simp only[AP.f67L0,go_sem,ln,XS c1,p1,p3,XP d1,XS d2]
   have hb:Bg (I y)=false:=by simp [Bg,I];omega
   have step:aL (aR AP.A) bq AP.f67L0 (ay [(0,x),(3,I p.length)] [0,3]) h=some (.normal,[(0,x),(3,I (p++[y]).length)],h):=by
    clear hany hb
    generalize (p++[y]).length=B at *
    simp only[I]at *
    simp only[AP.f67L0,go_sem,ln,XS c1,p1,p3,XP d1,XP d2,w1]
   rw[hb,Bool.false_or]
   rcases GJ hl h rd q (p++[y]) (by rw[hp];simp)with ⟨e',r1,r2⟩|⟨e',r1,r2,r3⟩
   · exact .inl ⟨e',tN step r1,r2⟩
   · exact .inr ⟨e',tN step r1,r2,r3⟩
theorem RX (h:H) (x:AV) (l:List Int) (hl:l.length<100000) (rd:Rd h x (ints l)):aR AP.A 67 [x] h=some (.bool (AL l),h):=by
 have rd':=rd.mono (vX h)
 have ln:=rd.len
 rw[pY]at ln
 unfold AL
 by_cases c1:l.length<1
 · refine uz (fn:=AP.f67) (h2:=h.dN) (e:=[(2,.bool false)]) rfl rfl rfl ?_ rfl (by rw[XP (show¬1≤l.length by omega)];rfl)
   have c1':(l.length:Int)<1:=by omega
   simp only[I]at *
   simp only[AP.f67,go_sem,ln,XS c1']
 have c1':¬(l.length:Int)<1:=by omega
 by_cases c2:288<l.length
 · refine uz (fn:=AP.f67) (h2:=h.dN) (e:=[(2,.bool false)]) rfl rfl rfl ?_ rfl (by rw[XP (show¬l.length≤288 by omega),Bool.and_false];rfl)
   have c2':(288:Int)<(l.length:Int):=by omega
   simp only[I]at *
   simp only[AP.f67,go_sem,ln,XP c1',XS c2']
 have c2':¬(288:Int)<(l.length:Int):=by omega
 rw[XS (show 1≤l.length by omega),XS (show l.length≤288 by omega)]
 rcases GJ hl h.dN rd' l [] rfl with ⟨e',r1,r2⟩|⟨e',r1,r2,r3⟩
 · have r1':Lp AP.A [0,3] AP.f67L0 [(0,x),(3,I 0)] h.dN=some (.exit 0,e',h.dN):=r1
   clear r1
   rw[r2]
   refine uz (fn:=AP.f67) (h2:=h.dN) (e:=[(2,.bool true)]) rfl rfl rfl ?_ rfl rfl
   simp only[I]at *
   simp only[AP.f67,go_sem,ln,XP c1',XP c2',sG,r1']
 · have r1':Lp AP.A [0,3] AP.f67L0 [(0,x),(3,I 0)] h.dN=some (.ret,e',h.dN):=r1
   clear r1
   rw[r3]
   refine uz (fn:=AP.f67) (h2:=h.dN) (e:=e') (vs:=[.bool false]) rfl rfl rfl ?_ (by simp only[AP.f67,cw,nC,r2];rfl) rfl
   simp only[I]at *
   simp only[AP.f67,go_sem,ln,XP c1',XP c2',sG,r1']
theorem Cq (p:List Int) (x:Int):∀n:Nat,wh (p++[x]) n=wh p n-(if 1≤x∧x≤n then 2^(n-x.toNat)else 0)
 | 0 => by
   rw[if_neg (by omega)];simp [wh]
 | n + 1 => by
   have e1:wh (p++[x]) (n+1)=wh (p++[x]) n* 2-xw (p++[x]) (n+1):=rfl
   have e2:wh p (n+1)=wh p n* 2-xw p (n+1):=rfl
   rw[e1,e2,Cq p x n,AA]
   by_cases h1:x=((n+1:Nat):Int)
   · rw[if_neg (by omega),if_pos ⟨by omega,h1⟩,if_pos (by omega)]
     rw[show n+1-x.toNat=0 by omega];simp;omega
   · rw[if_neg (show¬(n+1≠0∧x=((n+1:Nat):Int))from fun q=>h1 q.2)]
     by_cases h2:1≤x∧x≤(n:Int)
     · rw[if_pos h2,if_pos (by omega),show n+1-x.toNat=(n-x.toNat)+1 by omega,Int.pow_succ];omega
     · rw[if_neg h2,if_neg (by omega)];omega
theorem GZ {x : AV} {l : List Int} (hl : l.length < 100000) (hr : yP l) (h : H) (rd : Rd h x (ints l)) : ∀ (q p : List Int), l = p ++ q →
 ∃e',Lp AP.A [0,3,4] AP.f68L0 [(0,x),(3,I (32768-wh p 15)),(4,I p.length)] h=some (.exit 0,e',h)∧look e' 3=I (32768-wh l 15)
 | [], p, hp => by
   rw[XZ]at hp;subst hp
   have ln:=rd.len
   rw[pY]at ln
   refine⟨[(0,x),(3,I (32768-wh l 15)),(4,I l.length),(8,.bool false)],tM ?_,rfl⟩
   have c1:¬(l.length:Int)<(l.length:Int):=by omega
   simp only[I]at *
   simp only[AP.f68L0,go_sem,ln,XP c1]
 | y :: q, p, hp => by
   have ln:=rd.len
   rw[pY]at ln
   have hlen:l.length=p.length+(q.length+1):=by rw[hp];simp
   have c1:(p.length:Int)<(l.length:Int):=by omega
   have hv:(ints l)[p.length]?=some (I y):=tu (by rw[hp];simp)
   have hy:=hr y (by rw[hp];simp)
   obtain⟨ad,p1,p2⟩:=rd.elem hv
   have p3:=p2 h (fun _ _ q=>q)
   have w1:IntKind.wrap .i64 ((p.length:Int)+1)=(((p++[y]).length:Nat):Int):=by
    rw[vI];exact vL (n:=p.length+1) (by omega)
   have hsn:=Cq p y 15
   have hbd:=Ja (show p.length<100000 by omega) 15
   have step:aL (aR AP.A) bq AP.f68L0 (ay [(0,x),(3,I (32768-wh p 15)),(4,I p.length)] [0,3,4]) h=some (.normal,[(0,x),(3,I (32768-wh (p++[y]) 15)),(4,I (p++[y]).length)],h):=by
    by_cases d1:0<y
    · obtain⟨yn,hyn⟩:∃n:Nat,y=n:=XT hy.1
      subst hyn
      rw[if_pos (by omega),Yo]at hsn
      have w2:IntKind.wrap .i64 (15-(yn:Int))=((15-yn:Nat):Int):=by rw[show 15-(yn:Int)=((15-yn:Nat):Int)by omega];exact vL (by omega)
      have hp15:2^(15-yn)≤2^15:=XY (by omega) (by omega)
      have s1:pF .shl .i64 1 ((15-yn:Nat):Int)=some (.int .i64 ((2^(15-yn):Nat):Int)):=by
       have:=ym (a:=1) (s:=15-yn) (by omega) (by omega)
       rw[Nat.one_mul]at this;exact this
      have hpc:((2^(15-yn):Nat):Int)=2^(15-yn):=by simp
      have hpos:(0:Int)≤2^(15-yn):=Int.pow_nonneg (by omega)
      have w3:IntKind.wrap .i64 (32768-wh p 15+((2^(15-yn):Nat):Int))=32768-wh (p++[(yn:Int)]) 15:=by
       rw[show 32768-wh p 15+((2^(15-yn):Nat):Int)=32768-wh (p++[(yn:Int)]) 15 by rw[hsn,hpc];omega]
       refine ud ?_ ?_
       · rw[hsn];rw[←hpc];omega
       · rw[hsn];rw[←hpc];omega
      clear hsn hpc hbd hp15
      generalize (p++[(yn:Int)]).length=B at *
      generalize wh (p++[(yn:Int)]) 15=L2 at *
      generalize wh p 15=L1 at *
      generalize 2^(15-yn)=PW at *
      simp only[I]at *
      simp only[AP.f68L0,go_sem,ln,XS c1,p1,p3,XS d1,w2,s1,w3,w1]
    · rw[if_neg (by omega),Int.sub_zero]at hsn
      rw[hsn]
      clear hsn hbd
      generalize (p++[y]).length=B at *
      simp only[I]at *
      simp only[AP.f68L0,go_sem,ln,XS c1,p1,p3,XP d1,w1]
   obtain⟨e',r1,r2⟩:=GZ hl hr h rd q (p++[y]) (by rw[hp];simp)
   exact⟨e',tN step r1,r2⟩
theorem R8 (h:H) (x:AV) (l:List Int) (hl:l.length<100000) (hr:yP l) (rd:Rd h x (ints l)):aR AP.A 68 [x] h=some (I (32768-wh l 15),h):=by
 obtain⟨e',r1,r2⟩:=GZ hl hr h.dN (rd.mono (vX h)) l [] rfl
 have r1':Lp AP.A [0,3,4] AP.f68L0 [(0,x),(3,I 0),(4,I 0)] h.dN=some (.exit 0,e',h.dN):=r1
 clear r1
 refine uz (fn:=AP.f68) (h2:=h.dN) (e:=[(2,I (32768-wh l 15))]) rfl rfl rfl ?_ rfl rfl
 simp only[I]at *
 simp only[AP.f68,go_sem,sG,r1',r2]
theorem CO (h : H) (x : AV) (l : List Int) (hl : l.length < 100000) (rd : Rd h x (ints l)) : aR AP.A 52 [x] h = some (I (we l), h) := by
 have rd':=rd.mono (vX h)
 have k1:=RX h.dN x l hl rd'
 unfold we
 by_cases hm:AL l=true
 · have k2:=R8 h.dN x l hl (AM hm) rd'
   rw[hm]at k1 ⊢
   rw[if_neg (by decide)]
   by_cases c1:wh l 15<0
   · rw[if_pos c1]
     have d1:32768<32768-wh l 15:=by omega
     refine uz (fn:=AP.f52) (h2:=h.dN) (e:=[(2,I 301)]) rfl rfl rfl ?_ rfl rfl
     simp only[I]at *
     simp only[AP.f52,go_sem,k1,k2,XS d1]
   · rw[if_neg c1]
     have d1:¬32768<32768-wh l 15:=by omega
     by_cases c2:0<wh l 15
     · rw[if_pos c2]
       have d2:32768-wh l 15<32768:=by omega
       refine uz (fn:=AP.f52) (h2:=h.dN) (e:=[(2,I 302)]) rfl rfl rfl ?_ rfl rfl
       simp only[I]at *
       simp only[AP.f52,go_sem,k1,k2,XP d1,XS d2]
     · rw[if_neg c2]
       have d2:¬32768-wh l 15<32768:=by omega
       refine uz (fn:=AP.f52) (h2:=h.dN) (e:=[(2,I 0)]) rfl rfl rfl ?_ rfl rfl
       simp only[I]at *
       simp only[AP.f52,go_sem,k1,k2,XP d1,XP d2]
 · have hm':AL l=false:=by simpa using hm
   rw[hm']at k1 ⊢
   rw[if_pos rfl]
   refine uz (fn:=AP.f52) (h2:=h.dN) (e:=[(2,I 300)]) rfl rfl rfl ?_ rfl rfl
   simp only[I]at *
   simp only[AP.f52,go_sem,k1]
theorem BM {x : AV} {l : List Int} (hl : l.length < 100000) (hr : yP l) (h : H) (rd : Rd h x (ints l)) : ∀ (q p : List Int) (m b s : Int), l = p ++ q → 0 ≤ m → m ≤ p.length → m ≤ s → (m = 0 → s = 0) → (m = 1 → b = s) →
 ∃e' m' b',Lp AP.A [0,3,4,5] AP.f54L0 [(0,x),(3,I m),(4,I b),(5,I p.length)] h=some (.exit 0,e',h)∧look e' 3=I m'∧look e' 4=I b'∧0≤m'∧m'≤HX q s∧(m'=0→HX q s=0)∧(m'=1→b'=HX q s)
 | [], p, m, b, s, hp, h1, h2, h3, h4, h5 => by
   have ln:=rd.len
   rw[pY]at ln
   refine⟨[(0,x),(3,I m),(4,I b),(5,I p.length),(9,.bool false)],m,b,tM ?_,rfl,rfl,h1,h3,h4,h5⟩
   have c1:¬(p.length:Int)<(l.length:Int):=by rw[hp];simp
   simp only[I]at *
   simp only[AP.f54L0,go_sem,ln,XP c1]
 | y :: q, p, m, b, s, hp, h1, h2, h3, h4, h5 => by
   have ln:=rd.len
   rw[pY]at ln
   have hlen:l.length=p.length+(q.length+1):=by rw[hp];simp
   have c1:(p.length:Int)<(l.length:Int):=by omega
   have hv:(ints l)[p.length]?=some (I y):=tu (by rw[hp];simp)
   have hy:=hr y (by rw[hp];simp)
   obtain⟨ad,p1,p2⟩:=rd.elem hv
   have p3:=p2 h (fun _ _ q=>q)
   have w1:IntKind.wrap .i64 ((p.length:Int)+1)=(((p++[y]).length:Nat):Int):=by
    rw[vI];exact vL (n:=p.length+1) (by omega)
   by_cases d1:0<y
   · have w2:IntKind.wrap .i64 (m+1)=m+1:=ud (by omega) (by omega)
     have step:aL (aR AP.A) bq AP.f54L0 (ay [(0,x),(3,I m),(4,I b),(5,I p.length)] [0,3,4,5]) h=some (.normal,[(0,x),(3,I (m+1)),(4,I y),(5,I (p++[y]).length)],h):=by
      generalize hB:(p++[y]).length=B at *
      simp only[I]at *
      simp only[AP.f54L0,go_sem,ln,XS c1,p1,p3,XS d1,w2,w1]
     obtain⟨e',m',b',r1,r2⟩:=BM hl hr h rd q (p++[y]) (m+1) y (s+y) (by rw[hp];simp) (by omega) (by simp;omega) (by omega) (by omega) (by intro e;have:=h4 (by omega);omega)
     exact⟨e',m',b',tN step r1,r2⟩
   · have hy0:y=0:=by omega
     have step:aL (aR AP.A) bq AP.f54L0 (ay [(0,x),(3,I m),(4,I b),(5,I p.length)] [0,3,4,5]) h=some (.normal,[(0,x),(3,I m),(4,I b),(5,I (p++[y]).length)],h):=by
      generalize hB:(p++[y]).length=B at *
      simp only[I]at *
      simp only[AP.f54L0,go_sem,ln,XS c1,p1,p3,XP d1,w1]
     obtain⟨e',m',b',r1,r2⟩:=BM hl hr h rd q (p++[y]) m b (s+y) (by rw[hp];simp) h1 (by simp;omega) (by omega) (by intro e;have:=h4 e;omega) (by intro e;have:=h5 e;omega)
     exact⟨e',m',b',tN step r1,r2⟩
theorem N1 (h:H) (x:AV) (l:List Int) (hl:l.length<100000) (hr:yP l) (rd:Rd h x (ints l)):aR AP.A 54 [x] h=some (.bool (xL l),h):=by
 obtain⟨e',m',b',r1,r2,r3,r4,r5,r6,r7⟩:=BM hl hr h.dN (rd.mono (vX h)) l [] 0 0 0 rfl (by omega) (by simp) (by omega) (by intro _;rfl) (by omega)
 have r1':Lp AP.A [0,3,4,5] AP.f54L0 [(0,x),(3,I 0),(4,I 0),(5,I 0)] h.dN=some (.exit 0,e',h.dN):=r1
 clear r1
 refine uz (fn:=AP.f54) (h2:=h.dN) (e:=[(2,.bool (xL l))]) rfl rfl rfl ?_ rfl rfl
 unfold xL
 generalize HX l 0=s at *
 by_cases c0:m'=0
 · have d0:=uI c0
   have hs:s≤1:=by have:=r6 c0;omega
   rw[XS hs]
   simp only[I]at *
   simp only[AP.f54,go_sem,sG,r1',r2,r3,d0]
 have d0:=uH c0
 by_cases c1:m'=1
 · have d1:=uI c1
   have hb:=r7 c1
   by_cases c2:b'=1
   · have d2:=uI c2
     rw[XS (show s≤1 by omega)]
     simp only[I]at *
     simp only[AP.f54,go_sem,sG,r1',r2,r3,d0,d1,d2]
   · have d2:=uH c2
     rw[XP (show¬s≤1 by omega)]
     simp only[I]at *
     simp only[AP.f54,go_sem,sG,r1',r2,r3,d0,d1,d2]
 · have d1:=uH c1
   rw[XP (show¬s≤1 by omega)]
   simp only[I]at *
   simp only[AP.f54,go_sem,sG,r1',r2,r3,d0,d1]
theorem Fw {c:FC} {S:SS} {h:H} {ov:AV} (st:Ft c S h ov) (b:AV) (many times n:Int) (v:AV) (i:Int) (hs:times≤i∨(i<times∧S.e≠0)):
 ∃e',Lp AP.A [0,1,2,7,9,10,11] AP.f53L0 [(0,.aD c.f 0),(1,b),(2,I many),(7,v),(9,I times),(10,I n),(11,I i)] h=some (.exit 3,e',h)∧look e' 0=.aD c.f 0∧look e' 1=b∧look e' 2=I many∧look e' 7=v:=by
 have gf:=st.gf
 refine⟨[(0,.aD c.f 0),(1,b),(2,I many),(7,v),(9,I times),(10,I n),(11,I i),(83,.bool false)],tM ?_,rfl,rfl,rfl,rfl⟩
 rcases hs with hn|⟨hn,he⟩
 · have c1:¬i<times:=by omega
   simp only[I]at *
   simp only[AP.f53L0,go_sem,XP c1]
 · have c2:=uH he
   simp only[I]at *
   simp only[AP.f53L0,go_sem,XS hn,gf,c2]
theorem Jy {c:FC} (h0:H) {S:SS} {ov:AV} (he:S.e=0) (b:AV) (many:Int) (n:Int) (times:Nat) (ht:times≤1000):∀(m i:Nat) (acc:List Int) (h:H) (v:AV),i+m=times→Ft c S h ov→FF c h0 ov h ov→nJ h v (ints acc)→acc.length<100000+i→(∀j,v.id?=some j→h0.next≤j)→(∀j,(j=c.f∨ov.id?=some j)→j<h0.next)→
 ∃e' h' v',Lp AP.A [0,1,2,7,9,10,11] AP.f53L0 [(0,.aD c.f 0),(1,b),(2,I many),(7,v),(9,I times),(10,I n),(11,I i)] h=some (.exit 3,e',h')∧look e' 0=.aD c.f 0∧look e' 1=b∧look e' 2=I many∧look e' 7=v'∧Ft c S h' ov∧FF c h0 ov h' ov∧nJ h' v' (ints (acc++List.replicate m n))∧∀j,v'.id?=some j→h0.next≤j
 | 0, i, acc, h, v, hm, st, fr, o, hal, hid, hlo => by
   obtain⟨e',q1,q2,q3,q4,q5⟩:=Fw st b many times n v i (.inl (by omega))
   exact⟨e',h,v,q1,q2,q3,q4,q5,st,fr,by simpa using o,hid⟩
 | m + 1, i, acc, h, v, hm, st, fr, o, hal, hid, hlo => by
   have gf:=st.gf
   rw[he]at gf
   have c1:(i:Int)<times:=by omega
   have w1:IntKind.wrap .i64 ((i:Int)+1)=((i+1:Nat):Int):=vL (n:=i+1) (by omega)
   obtain⟨g,hg⟩:∃g,g=h.alloc [I n]:=⟨_,rfl⟩
   have al:=st.alloc [I n]
   rw[←hg]at al
   have og:nJ g v (ints acc):=o.mono (by rw[hg];simp) fun j hj=>by have:=o.lt hj;rw[hg,H.aW,if_neg (by omega)]
   have hgf:=al.1.nx
   obtain⟨v',h2,r1,r2,r3,r4,r5,r6⟩:=og.app hgf (z:=8) (I n) rfl (by simp [roomy];omega)
   have src:aS g 1 (.aE h.next 0 1 1)=some (1,[I n]):=by simp [aS,hg,H.aW]
   have ap:kM g 1 8 v (.aE h.next 0 1 1)=some (v',h2):=by unfold kM;rw[src,vi];exact r1
   have bt:∀e:Env,look e 87=.int .i64 n→aY e (.cD 1 1 [.int .i64 0] [(0,.t 87)])=some ([.int .i64 n],fun i=>.aE i 0 1 1):=by
    intro e q;simp only[aY,XX,Yk,sI,q];rfl
   have step:aL (aR AP.A) bq AP.f53L0 (ay [(0,.aD c.f 0),(1,b),(2,I many),(7,v),(9,I times),(10,I n),(11,I i)] [0,1,2,7,9,10,11]) h=some (.normal,[(0,.aD c.f 0),(1,b),(2,I many),(7,v'),(9,I times),(10,I n),(11,I (i+1:Nat))],h2):=by
    simp only[I]at *
    simp only[AP.f53L0,go_sem,XS c1,gf]
    rw[bt _ rfl]
    simp only[go_sem,←hg,ap,w1]
   have frg:=fr.trans al.2
   have st2:Ft c S h2 ov:=al.1.wV r3 r4 fun j hj=>r5 j (fun e=>by have:=hid j e;have:=hlo j hj;omega) (by have:=hlo j hj;have:=frg.nx;omega)
   have fr2:FF c h0 ov h2 ov:=⟨r3.trans frg.fl,vG frg.nx r4,fun id i1 i2 i4=>by rw[r5 id (fun e=>by have:=hid id e;omega) (by have:=frg.nx;omega)];exact frg.D9 id i1 i2 i4,fun j hj=>.inl hj⟩
   have hr:ints acc++[I n]=ints (acc++[n]):=by rw[pX];rfl
   rw[hr]at r2
   obtain⟨e',h',v2,s1,s2,s3,s4,s5,s6,s7,s8,s9⟩:=Jy h0 he b many n times ht m (i+1) (acc++[n]) h2 v' (by omega) st2 fr2 r2 (by simp;omega) (fun j hj=>by rw[r6]at hj;cases hj;exact frg.nx) hlo
   refine⟨e',h',v2,tN step s1,s2,s3,s4,s5,s6,s7, ?_,s9⟩
   rw[List.replicate_succ,show acc++n::List.replicate m n=acc++[n]++List.replicate m n by simp]
   exact s8
theorem Cm {c:FC} {S:SS} {h:H} {ov:AV} (st:Ft c S h ov) (b:AV) (many:Nat) {v:AV} {acc:List Int} (o:nJ h v (ints acc)) (hs:many≤acc.length∨(acc.length<many∧S.e≠0)):
 ∃e',Lp AP.A [0,1,2,7] AP.f53L1 [(0,.aD c.f 0),(1,b),(2,I many),(7,v)] h=some (.exit 0,e',h)∧look e' 7=v:=by
 have gf:=st.gf
 have ln:=o.len
 rw[pY]at ln
 refine⟨[(0,.aD c.f 0),(1,b),(2,I many),(7,v),(22,.bool false)],tM ?_,rfl⟩
 rcases hs with hs|⟨hs,he⟩
 · have c1:¬(acc.length:Int)<many:=by omega
   simp only[I]at *
   simp only[AP.f53L1,go_sem,ln,XP c1]
 · have c1:(acc.length:Int)<many:=by omega
   have c2:=uH he
   simp only[I]at *
   simp only[AP.f53L1,go_sem,ln,XS c1,gf,c2]
theorem Kd {c : FC} {S2 : SS} {h2 : H} {ov : AV} (h0 : H) (cl : List Int) (many : Nat) (hm : many ≤ 400) {v : AV} {acc : List Int} (st : Ft c S2 h2 ov) (fr : FF c h0 ov h2 ov) (o : nJ h2 v (ints acc)) (hal : acc.length < many) (hid : ∀ j, v.id? = some j → h0.next ≤ j) (hlo : ∀ j, (j = c.f ∨ ov.id? = some j) → j < h0.next) (n : Int) (times : Nat) (ht : times ≤ 1000) (he2 : S2.e = 0 ∨ S2.e = 700) (code : aG)
 (hcode:code=(.seq (.seq (.pd [⟨(some 59),.mv (.t 0),none⟩,⟨(some 60),.oB (.t 59),none⟩,⟨(some 61),.oh 4 (.t 60),none⟩,⟨(some 62),.load false 1 (.t 61),none⟩,⟨(some 63),.bin .eql (.t 62) (.c (.int .i64 0)),none⟩,⟨(some 64),.mv (.t 63),none⟩,⟨(some 65),.mv (.t 7),(some (64,true))⟩,⟨(some 66),.len false (.t 65),(some (64,true))⟩,⟨(some 67),.mv (.t 9),(some (64,true))⟩,⟨(some 68),.bin .add (.t 66) (.t 67),(some (64,true))⟩,⟨(some 69),.mv (.t 2),(some (64,true))⟩,⟨(some 70),.bin .gtr (.t 68) (.t 69),(some (64,true))⟩,⟨(some 71),.pick (.t 64) (.t 70) (.c (.bool false)),none⟩] [0,1,2,7,9,10,71]) (.cond (.t 71) (.pd [⟨(some 72),.mv (.t 0),none⟩,⟨(some 73),.call (.c (.fn 25 [] [])) [(.t 72)],none⟩] [0,1,2,7,9,10]) (.skip) [0,1,2,7,9,10])) (.seq (.pd [⟨(some 11),.mv (.c (.int .i64 0)),none⟩] [0,1,2,7,9,10,11]) (.block 3 (.loop [0,1,2,7,9,10,11] AP.f53L0) [0,1,2,7])))):
 ∃ h3 S3 v3, aL (aR AP.A) bq code [(0, .aD c.f 0), (1, wq cl), (2, I many), (7, v), (9, I times), (10, I n)] h2 = some (.normal, [(0, .aD c.f 0), (1, wq cl), (2, I many), (7, v3)], h3) ∧ Ft c S3 h3 ov ∧ FF c h0 ov h3 ov ∧
   ((S2.e=0∧acc.length+times≤many∧S3=S2∧nJ h3 v3 (ints (acc++List.replicate times n))∧∀j,v3.id?=some j→h0.next≤j)∨((S2.e≠0∨many<acc.length+times)∧S3.e=700∧v3=v∧nJ h3 v (ints acc))):=by
 have gf:=st.gf
 have ln:=o.len
 rw[pY]at ln
 subst hcode
 have w1:IntKind.wrap .i64 ((acc.length:Int)+times)=((acc.length+times:Nat):Int):=by rw[show(acc.length:Int)+times=((acc.length+times:Nat):Int)by omega];exact vL (by omega)
 by_cases he:S2.e=0
 · have ce:=uI he
   by_cases hgt:many<acc.length+times
   · have d1:(many:Int)<((acc.length+times:Nat):Int):=by omega
     obtain⟨h3,f1,f2,f3⟩:=y7 st
     have he3:(v8 700 S2).e=700:=by simp [v8,he]
     have hs:(times:Int)≤0∨((0:Int)<times∧(v8 700 S2).e≠0):=by
      by_cases q:0<times
      · exact .inr ⟨by omega,by rw[he3];decide⟩
      · exact .inl (by omega)
     obtain⟨e',q1,q2,q3,q4,q5⟩:=Fw f2 (wq cl) many times n v 0 hs
     have o3:nJ h3 v (ints acc):=o.mono f3.fl fun j hj=>f3.D9 j (o.lt hj) (fun e=>by have:=hid j hj;have:=hlo j (.inl e);omega) (fun e=>by have:=hid j hj;have:=hlo j (.inr e);omega)
     refine⟨h3,v8 700 S2,v, ?_,f2,fr.trans f3,.inr ⟨.inr hgt,he3,rfl,o3⟩⟩
     simp only[I]at *
     simp only[go_sem,gf,ce,ln,w1,XS d1,f1,sG,q1,q2,q3,q4,q5]
   · have d1:¬(many:Int)<((acc.length+times:Nat):Int):=by omega
     obtain⟨e',h3,v3,q1,q2,q3,q4,q5,q6,q7,q8,q9⟩:=Jy h0 he (wq cl) many n times ht times 0 acc h2 v (by omega) st fr o (by omega) hid hlo
     have q1':Lp AP.A [0,1,2,7,9,10,11] AP.f53L0 [(0,.aD c.f 0),(1,wq cl),(2,I many),(7,v),(9,I times),(10,I n),(11,I 0)] h2=some (.exit 3,e',h3):=q1
     clear q1
     refine⟨h3,S2,v3, ?_,q6,q7,.inl ⟨he,by omega,rfl,q8,q9⟩⟩
     simp only[I]at *
     simp only[go_sem,gf,ce,ln,w1,XP d1,sG,q1',q2,q3,q4,q5]
 · have ce:=uH he
   have he3:S2.e=700:=by rcases he2 with q|q;exact absurd q he;exact q
   have hs:(times:Int)≤0∨((0:Int)<times∧S2.e≠0):=by
    by_cases q:0<times
    · exact .inr ⟨by omega,he⟩
    · exact .inl (by omega)
   obtain⟨e',q1,q2,q3,q4,q5⟩:=Fw st (wq cl) many times n v 0 hs
   refine⟨h2,S2,v, ?_,st,fr,.inr ⟨.inl he,he3,rfl,o⟩⟩
   simp only[I]at *
   simp only[go_sem,gf,ce,ln,w1,sG,q1,q2,q3,q4,q5]
theorem EZ {c : FC} (h0 : H) (cl : List Int) (hcl : cl.length < 1000) (many : Nat) (hm : many ≤ 400) : ∀ (f : Nat) (acc : List Int) (S : SS) (h : H) (ov v : AV), Ft c S h ov → S.e = 0 → 8 * c.text.size < S.at_ + f → FF c h0 ov h ov → nJ h v (ints acc) → acc.length ≤ many → (∀ j, v.id? = some j → h0.next ≤ j) → (∀ j, (j = c.f ∨ ov.id? = some j) → j < h0.next) →
 ∃ h' S', Ft c S' h' ov ∧ FF c h0 ov h' ov ∧ match wI c.text cl many f acc S.at_ with
   |some (L,p)=>S'={S with at_:=p}∧L.length=many∧∃e' v',Lp AP.A [0,1,2,7] AP.f53L1 [(0,.aD c.f 0),(1,wq cl),(2,I many),(7,v)] h=some (.exit 0,e',h')∧look e' 7=v'∧nJ h' v' (ints L)∧∀j,v'.id?=some j→h0.next≤j
   |none=>S'.e=700∧((∃e' v',Lp AP.A [0,1,2,7] AP.f53L1 [(0,.aD c.f 0),(1,wq cl),(2,I many),(7,v)] h=some (.exit 0,e',h')∧look e' 7=v')∨∃e',Lp AP.A [0,1,2,7] AP.f53L1 [(0,.aD c.f 0),(1,wq cl),(2,I many),(7,v)] h=some (.ret,e',h')∧look e' 6=.aP)
 |0,acc,S,h,ov,v,st,he,hk,fr,oa,hal,hid,hlo=>by have:=st.xY;omega
 | f + 1, acc, S, h, ov, v, st, he, hk, fr, oa, hal, hid, hlo => by
   by_cases hlt:acc.length<many
   · rw [wI, if_pos hlt]
     have gf:=st.gf
     rw[he]at gf
     have ln:=oa.len
     rw[pY]at ln
     have c1:(acc.length:Int)<many:=by omega
     obtain⟨h1,S1,y,s1,s2,s3,s4⟩:=Dw cl hcl st he
     have gf1:=s2.gf
     cases hz:xX c.text cl 15 1 0 S.at_ with
     | none =>
       rw[hz]at s4
       obtain⟨s4,s5⟩:=s4
       have ce:(S1.e !=0)=true:=uK (by rw[s4];decide)
       refine⟨h1,S1,s2,fr.trans s3,s4,.inr ⟨[(6,.aP)],uh ?_,rfl⟩⟩
       simp only[I]at *
       simp only[AP.f53L1,go_sem,ln,XS c1,gf,s1,gf1,ce]
     | some yp =>
       obtain⟨z,p1⟩:=yp
       rw[hz]at s4
       obtain⟨s4,s5⟩:=s4
       subst s5 s4
       have zb:=yf hz
       dsimp only at gf1 ⊢
       rw[he]at gf1
       have fr1:=fr.trans s3
       have hneq:∀i,v.id?=some i→i≠c.f∧ov.id?≠some i:=fun i hi=>by
        have:=hid i hi
        exact⟨fun e=>by have:=hlo i (.inl e);omega,fun e=>by have:=hlo i (.inr e);omega⟩
       have oa1:nJ h1 v (ints acc):=oa.mono s3.fl fun i hi=>s3.D9 i (oa.lt hi) (hneq i hi).1 (hneq i hi).2
       have ln1:=oa1.len
       rw[pY]at ln1
       have fin:∀(n:Int) (times:Nat) (h2:H) (S2:SS),times≤1000→Ft c S2 h2 ov→FF c h0 ov h2 ov→nJ h2 v (ints acc)→(S2.e=0∨S2.e=700)→(∀code h3 v3,code=(aG.seq (.seq (.pd [⟨(some 59),.mv (.t 0),none⟩,⟨(some 60),.oB (.t 59),none⟩,⟨(some 61),.oh 4 (.t 60),none⟩,⟨(some 62),.load false 1 (.t 61),none⟩,⟨(some 63),.bin .eql (.t 62) (.c (.int .i64 0)),none⟩,⟨(some 64),.mv (.t 63),none⟩,⟨(some 65),.mv (.t 7),(some (64,true))⟩,⟨(some 66),.len false (.t 65),(some (64,true))⟩,⟨(some 67),.mv (.t 9),(some (64,true))⟩,⟨(some 68),.bin .add (.t 66) (.t 67),(some (64,true))⟩,⟨(some 69),.mv (.t 2),(some (64,true))⟩,⟨(some 70),.bin .gtr (.t 68) (.t 69),(some (64,true))⟩,⟨(some 71),.pick (.t 64) (.t 70) (.c (.bool false)),none⟩] [0,1,2,7,9,10,71]) (.cond (.t 71) (.pd [⟨(some 72),.mv (.t 0),none⟩,⟨(some 73),.call (.c (.fn 25 [] [])) [(.t 72)],none⟩] [0,1,2,7,9,10]) (.skip) [0,1,2,7,9,10])) (.seq (.pd [⟨(some 11),.mv (.c (.int .i64 0)),none⟩] [0,1,2,7,9,10,11]) (.block 3 (.loop [0,1,2,7,9,10,11] AP.f53L0) [0,1,2,7])))→aL (aR AP.A) bq code [(0,.aD c.f 0),(1,wq cl),(2,I many),(7,v),(9,I times),(10,I n)] h2=some (.normal,[(0,.aD c.f 0),(1,wq cl),(2,I many),(7,v3)],h3)→
        aL (aR AP.A) bq AP.f53L1 (ay [(0,.aD c.f 0),(1,wq cl),(2,I many),(7,v)] [0,1,2,7]) h=some (.normal,[(0,.aD c.f 0),(1,wq cl),(2,I many),(7,v3)],h3))→
        (match wR c.text y acc p1 with|some q=>S2={S with at_:=q.2.2}∧n=q.1∧times=q.2.1∧p1≤q.2.2|none=>S2.e=700)→
        ∃ h' S', Ft c S' h' ov ∧ FF c h0 ov h' ov ∧ match (match wR c.text y acc p1 with | none => none | some (n, times, p2) => wI c.text cl many f (acc ++ List.replicate times n) p2) with
          |some (L,p)=>S'={S with at_:=p}∧L.length=many∧∃e' v',Lp AP.A [0,1,2,7] AP.f53L1 [(0,.aD c.f 0),(1,wq cl),(2,I many),(7,v)] h=some (.exit 0,e',h')∧look e' 7=v'∧nJ h' v' (ints L)∧∀j,v'.id?=some j→h0.next≤j
          |none=>S'.e=700∧((∃e' v',Lp AP.A [0,1,2,7] AP.f53L1 [(0,.aD c.f 0),(1,wq cl),(2,I many),(7,v)] h=some (.exit 0,e',h')∧look e' 7=v')∨∃e',Lp AP.A [0,1,2,7] AP.f53L1 [(0,.aD c.f 0),(1,wq cl),(2,I many),(7,v)] h=some (.ret,e',h')∧look e' 6=.aP):=by
        intro n times h2 S2 ht st2 fr2 o2 he2 hstep hag
        obtain⟨h3,S3,v3,t1,t2,t3,t4⟩:=Kd h0 cl many hm st2 fr2 o2 hlt hid hlo n times ht he2 _ rfl
        have step:=hstep _ h3 v3 rfl t1
        cases ha:wR c.text y acc p1 with
        | none =>
          rw[ha]at hag
          dsimp only at hag ⊢
          rcases t4 with ⟨t5,_⟩|⟨_,t6,t7,t8⟩
          · rw[hag]at t5;exact absurd t5 (by decide)
          · subst t7
            obtain⟨e',q1,q2⟩:=Cm t2 (wq cl) many t8 (.inr ⟨hlt,by rw[t6];decide⟩)
            exact⟨h3,S3,t2,t3,t6,.inl ⟨e',v3,tN step q1,q2⟩⟩
        | some q =>
          obtain⟨n2,t2',p2⟩:=q
          rw[ha]at hag
          obtain⟨g1,g2,g3,g4⟩:=hag
          dsimp only at g1 g2 g3 g4 ⊢
          subst g1 g2 g3
          have hle2:=st2.xY
          dsimp only at hle2
          rcases t4 with ⟨t5,t6,t7,t8,t9⟩|⟨t5,t6,t7,t8⟩
          · subst t7
            obtain⟨h',S',r1,r2,r3⟩:=EZ h0 cl hcl many hm f (acc++List.replicate times n) _ h3 ov v3 t2 he (by dsimp only;omega) t3 t8 (by simp;omega) t9 hlo
            refine⟨h',S',r1,r2, ?_⟩
            dsimp only at r3
            cases hL:wI c.text cl many f (acc++List.replicate times n) p2 with
            | some q =>
              rw[hL]at r3
              obtain⟨r4,r5,e',v',r6,r7⟩:=r3
              exact⟨r4,r5,e',v',tN step r6,r7⟩
            | none =>
              rw[hL]at r3
              obtain⟨r4,r5⟩:=r3
              refine⟨r4, ?_⟩
              rcases r5 with ⟨e',v',r6,r7⟩|⟨e',r6,r7⟩
              · exact .inl ⟨e',v',tN step r6,r7⟩
              · exact .inr ⟨e',tN step r6,r7⟩
          · have hgt:many<acc.length+times:=by
             rcases t5 with q|q
             · exact absurd he q
             · exact q
            have hnone:wI c.text cl many f (acc++List.replicate times n) p2=none:=by
             obtain⟨f',rfl⟩:∃f',f=f'+1:=⟨f-1,by omega⟩
             rw[wI,if_neg (by simp;omega),if_pos (by simp;omega)]
            rw[hnone]
            dsimp only
            subst t7
            obtain⟨e',q1,q2⟩:=Cm t2 (wq cl) many t8 (.inr ⟨hlt,by rw[t6];decide⟩)
            exact⟨h3,S3,t2,t3,t6,.inl ⟨e',v3,tN step q1,q2⟩⟩
       have ne0:((0:Int) !=0)=false:=rfl
       by_cases h16:y=16
       · have d16:=uI h16
         by_cases hn:acc=[]
         · obtain⟨h2,f1,f2,f3⟩:=y7 s2
           have hag:wR c.text y acc p1=none:=by unfold wR;rw[if_pos h16,if_pos hn]
           rw[hag]
           have hz0:((acc.length:Int)==0)=true:=by rw[hn];rfl
           refine⟨h2,_,f2,fr1.trans f3,by simp [v8,he],.inr ⟨[(6,.aP)],uh ?_,rfl⟩⟩
           simp only[I]at *
           simp only[AP.f53L1,go_sem,ln,XS c1,gf,s1,gf1,ne0,d16,ln1,hz0,f1]
         · have hpos:0<acc.length:=Yv.2 hn
           have hz0:((acc.length:Int)==0)=false:=uH (by omega)
           have w2:IntKind.wrap .i64 ((acc.length:Int)-1)=((acc.length-1:Nat):Int):=by
            rw[show(acc.length:Int)-1=((acc.length-1:Nat):Int)by omega];exact vL (by omega)
           have hel:=BU (l:=acc) (i:=acc.length-1) (by omega)
           obtain⟨id,i1,i2,i3⟩:=oa1.elem hel
           obtain⟨h2,k1,k2,k3⟩:=yO s2 2 2 rfl (by omega)
           have hgl:(wC c 2 {S with at_:=p1}).1<4:=by
            unfold wC;split
            · simpa using wQ c.text p1 2
            · simp
           have w3:IntKind.wrap .i64 (3+((wC c 2 {S with at_:=p1}).1:Int))=((3+(wC c 2 {S with at_:=p1}).1:Nat):Int):=vL (n:=3+_) (by omega)
           have o2:nJ h2 v (ints acc):=oa1.mono k3.fl fun i hi=>k3.D9 i (oa1.lt hi) (hneq i hi).1 (hneq i hi).2
           refine fin (acc.getD (acc.length-1) 0) (3+(wC c 2 {S with at_:=p1}).1) h2 _ (by omega) k2 (fr1.trans k3) o2 (Dz c 2 _ (.inl he)) ?_ ?_
           · intro code h3 v3 hc hev
             clear fin i1
             generalize (wC c 2 {S with at_:=p1}).1=G at *
             unfold AP.f53L1
             rw[hc]at hev
             simp only[I]at *
             simp only[se,nL,qh,sZ,go_sem,ln,XS c1,gf,s1,gf1,ne0,d16,ln1,hz0,w2,i2,i3,hel,k1,w3]
             simp only[se,nL,qh,sZ,go_sem]at hev
             simp only[hev,go_sem]
           · by_cases hp:p1+2≤8* c.text.size
             · have hag:wR c.text y acc p1=some (acc.getD (acc.length-1) 0,3+vP c.text p1 2,p1+2):=by unfold wR;rw[if_pos h16,if_neg hn,if_pos hp]
               rw[hag]
               have eg:wC c 2 {S with at_:=p1}=(vP c.text p1 2,{S with at_:=p1+2}):=by rw[wC,if_pos hp]
               rw[eg]
               exact⟨rfl,rfl,rfl,by show p1≤p1+2;omega⟩
             · have hag:wR c.text y acc p1=none:=by unfold wR;rw[if_pos h16,if_neg hn,if_neg hp]
               rw[hag]
               have eg:wC c 2 {S with at_:=p1}=(0,{S with at_:=p1,e:=700}):=by rw[wC,if_neg hp,v8,if_pos he]
               rw[eg]
       · have d16:=uH h16
         by_cases h17:y=17
         · have d17:=uI h17
           obtain⟨h2,k1,k2,k3⟩:=yO s2 3 3 rfl (by omega)
           have hgl:(wC c 3 {S with at_:=p1}).1<8:=by
            unfold wC;split
            · simpa using wQ c.text p1 3
            · simp
           have w3:IntKind.wrap .i64 (3+((wC c 3 {S with at_:=p1}).1:Int))=((3+(wC c 3 {S with at_:=p1}).1:Nat):Int):=vL (n:=3+_) (by omega)
           have o2:nJ h2 v (ints acc):=oa1.mono k3.fl fun i hi=>k3.D9 i (oa1.lt hi) (hneq i hi).1 (hneq i hi).2
           refine fin 0 (3+(wC c 3 {S with at_:=p1}).1) h2 _ (by omega) k2 (fr1.trans k3) o2 (Dz c 3 _ (.inl he)) ?_ ?_
           · intro code h3 v3 hc hev
             clear fin
             generalize (wC c 3 {S with at_:=p1}).1=G at *
             unfold AP.f53L1
             rw[hc]at hev
             simp only[I]at *
             simp only[se,nL,qh,sZ,go_sem,ln,XS c1,gf,s1,gf1,ne0,d16,d17,k1,w3]
             simp only[se,nL,qh,sZ,go_sem]at hev
             simp only[hev,go_sem]
           · by_cases hp:p1+3≤8* c.text.size
             · have hag:wR c.text y acc p1=some (0,3+vP c.text p1 3,p1+3):=by unfold wR;rw[if_neg h16,if_pos h17,if_pos hp]
               rw[hag]
               have eg:wC c 3 {S with at_:=p1}=(vP c.text p1 3,{S with at_:=p1+3}):=by rw[wC,if_pos hp]
               rw[eg]
               exact⟨rfl,rfl,rfl,by show p1≤p1+3;omega⟩
             · have hag:wR c.text y acc p1=none:=by unfold wR;rw[if_neg h16,if_pos h17,if_neg hp]
               rw[hag]
               have eg:wC c 3 {S with at_:=p1}=(0,{S with at_:=p1,e:=700}):=by rw[wC,if_neg hp,v8,if_pos he]
               rw[eg]
         · have d17:=uH h17
           by_cases h18:y=18
           · have d18:=uI h18
             obtain⟨h2,k1,k2,k3⟩:=yO s2 7 7 rfl (by omega)
             have hgl:(wC c 7 {S with at_:=p1}).1<128:=by
              unfold wC;split
              · simpa using wQ c.text p1 7
              · simp
             have w3:IntKind.wrap .i64 (11+((wC c 7 {S with at_:=p1}).1:Int))=((11+(wC c 7 {S with at_:=p1}).1:Nat):Int):=vL (n:=11+_) (by omega)
             have o2:nJ h2 v (ints acc):=oa1.mono k3.fl fun i hi=>k3.D9 i (oa1.lt hi) (hneq i hi).1 (hneq i hi).2
             refine fin 0 (11+(wC c 7 {S with at_:=p1}).1) h2 _ (by omega) k2 (fr1.trans k3) o2 (Dz c 7 _ (.inl he)) ?_ ?_
             · intro code h3 v3 hc hev
               clear fin
               generalize (wC c 7 {S with at_:=p1}).1=G at *
               unfold AP.f53L1
               rw[hc]at hev
               simp only[I]at *
               simp only[se,nL,qh,sZ,go_sem,ln,XS c1,gf,s1,gf1,ne0,d16,d17,d18,k1,w3]
               simp only[se,nL,qh,sZ,go_sem]at hev
               simp only[hev,go_sem]
             · by_cases hp:p1+7≤8* c.text.size
               · have hag:wR c.text y acc p1=some (0,11+vP c.text p1 7,p1+7):=by unfold wR;rw[if_neg h16,if_neg h17,if_pos h18,if_pos hp]
                 rw[hag]
                 have eg:wC c 7 {S with at_:=p1}=(vP c.text p1 7,{S with at_:=p1+7}):=by rw[wC,if_pos hp]
                 rw[eg]
                 exact⟨rfl,rfl,rfl,by show p1≤p1+7;omega⟩
               · have hag:wR c.text y acc p1=none:=by unfold wR;rw[if_neg h16,if_neg h17,if_pos h18,if_neg hp]
                 rw[hag]
                 have eg:wC c 7 {S with at_:=p1}=(0,{S with at_:=p1,e:=700}):=by rw[wC,if_neg hp,v8,if_pos he]
                 rw[eg]
           · have d18:=uH h18
             have hag:wR c.text y acc p1=some (y,1,p1):=by unfold wR;rw[if_neg h16,if_neg h17,if_neg h18]
             refine fin y 1 h1 _ (by omega) s2 fr1 oa1 (.inl he) ?_ (by rw[hag];exact⟨rfl,rfl,rfl,vm _⟩)
             intro code h3 v3 hc hev
             clear fin hag
             unfold AP.f53L1
             rw[hc]at hev
             have hev':aL (aR AP.A) bq _ [(0,.aD c.f 0),(1,wq cl),(2,I many),(7,v),(9,I 1),(10,I y)] h1=_:=hev
             clear hev
             simp only[I]at *
             simp only[se,nL,qh,sZ,go_sem,ln,XS c1,gf,s1,gf1,ne0,d16,d17,d18]
             simp only[se,nL,qh,sZ,go_sem,ln,XS c1,gf,s1,gf1,ne0,d16,d17,d18]at hev'
             simp only[hev',go_sem]
   · have heq:acc.length=many:=by omega
     obtain⟨e',q1,q2⟩:=Cm st (wq cl) many oa (.inl (by omega))
     refine⟨h,S,st,fr, ?_⟩
     rw[wI,if_neg hlt,if_neg (by omega)]
     exact⟨rfl,heq,e',v,q1,q2,oa,hid⟩
def H6 (c:FC):SC:=⟨0,0,c.text,c.most⟩
theorem ON (c:FC) (n:Nat) (S:SS):wC c n S=vU (H6 c) n S:=(OM (H6 c) c rfl n S).symm
theorem Gp {c : FC} (a : Nat) (many : Nat) (hmany : many ≤ 19) (m2 m3 : AV) : ∀ (q p o : List Int) (S : SS) (h : H) (ov : AV), vQ.take many = p ++ q → Ft c S h ov → ov.id? ≠ some a → a ≠ c.f → h.get a = some (ints o) → o.length = 19 → h.floor ≤ a →
 ∃ e' h', Lp AP.A [0, 2, 3, 4, 5, 6, 7] AP.f24L0 [(0, .aD c.f 0), (2, m2), (3, m3), (4, I many), (5, .aE a 0 19 1), (6, wP vQ), (7, I p.length)] h = some (.exit 0, e', h') ∧ look e' 0 = .aD c.f 0 ∧ look e' 2 = m2 ∧ look e' 3 = m3 ∧ look e' 5 = .aE a 0 19 1 ∧
   Ft c (zD (H6 c) q o S).2 h' ov∧h'.get a=some (ints (zD (H6 c) q o S).1)∧h'.floor=h.floor∧h.next≤h'.next∧∀i,i<h.next→i≠c.f→ov.id?≠some i→i≠a→h'.get i=h.get i
 | [], p, o, S, h, ov, hp, st, hoa, hac, hg, ho, hf => by
   have hlen:p.length=many:=by
    have:=Yh List.length hp
    rw[Yb,XZ]at this
    have h2:vQ.length=19:=rfl
    omega
   refine⟨[(0,.aD c.f 0),(2,m2),(3,m3),(4,I many),(5,.aE a 0 19 1),(6,wP vQ),(7,I p.length),(37,.bool false)],h,tM ?_,rfl,rfl,rfl,rfl,st,hg,rfl,vm _,fun _ _ _ _ _=>rfl⟩
   have c1:¬(p.length:Int)<(many:Int):=by omega
   simp only[I]at *
   simp only[AP.f24L0,go_sem,XP c1]
 | s :: q, p, o, S, h, ov, hp, st, hoa, hac, hg, ho, hf => by
   have h2l:vQ.length=19:=rfl
   have hlen:p.length+(q.length+1)=many:=by
    have:=Yh List.length hp
    rw[Yb,vI,XO]at this
    omega
   have c1:(p.length:Int)<(many:Int):=by omega
   have hsm:s∈vQ:=Yt (i:=many) (by rw[hp];simp)
   have hs:=AO s hsm
   obtain⟨sn,hsn⟩:∃n:Nat,s=n:=XT hs.1
   subst hsn
   have hv0:vQ[p.length]?=some (sn:Int):=by
    have:(vQ.take many)[p.length]?=some (sn:Int):=by rw[hp];simp
    rw[vH]at this
    split at this
    · exact this
    · cases this
   have hv:(ints vQ)[p.length]?=some (I sn):=tu hv0
   have ia:fM 1 (wP vQ) (I p.length)=some (.aK (ints vQ) p.length):=by
    have:=kj (show p.length<vQ.length by omega)
    simp only[fM,wP,if_true,this,vi,vr,Yy]
   obtain⟨h1,k1,k2,k3⟩:=yO st 3 3 rfl (by omega)
   rw[ON]at k1 k2
   have hal:a<h.next:=h.lt _ _ hg
   have hg1:h1.get a=some (ints o):=by rw[k3.D9 a hal hac hoa];exact hg
   have a1:fM 1 (.aE a 0 19 1) (I sn)=some (.aD a sn):=by simp [fM,kj (show sn<19 by omega)]
   have hset:(ints o).set sn (I ((vU (H6 c) 3 S).1:Nat))=ints (o.set sn ((vU (H6 c) 3 S).1:Nat)):=by simp [ints,List.map_set]
   have hst:uD h1 a sn 1 [I ((vU (H6 c) 3 S).1:Nat)] (some (ints o))=some (h1.set a (ints (o.set sn ((vU (H6 c) 3 S).1:Nat)))):=by
    rw[uU (by rw[k3.fl];exact hf) (by rw[pY];omega) rfl,hset]
   have w2:IntKind.wrap .i64 ((p.length:Int)+1)=(((p++[(sn:Int)]).length:Nat):Int):=by
    rw[vI];exact vL (n:=p.length+1) (by omega)
   have step:aL (aR AP.A) bq AP.f24L0 (ay [(0,.aD c.f 0),(2,m2),(3,m3),(4,I many),(5,.aE a 0 19 1),(6,wP vQ),(7,I p.length)] [0,2,3,4,5,6,7]) h=some (.normal,[(0,.aD c.f 0),(2,m2),(3,m3),(4,I many),(5,.aE a 0 19 1),(6,wP vQ),(7,I (p++[(sn:Int)]).length)],h1.set a (ints (o.set sn ((vU (H6 c) 3 S).1:Nat)))):=by
    clear hset
    generalize ints (o.set sn ((vU (H6 c) 3 S).1:Nat))=W at *
    generalize (p++[(sn:Int)]).length=B at *
    generalize (vU (H6 c) 3 S).1=G at *
    generalize ints o=OO at *
    generalize wP vQ=RO at *
    unfold AP.f24L0
    refine uR (e1:=[(0,.aD c.f 0),(2,m2),(3,m3),(4,I many),(5,.aE a 0 19 1),(6,RO),(7,I p.length)]) (h1:=h) ?_ ?_
    · simp only[I]at *
      simp only[go_sem,XS c1]
    refine uR (e1:=[(0,.aD c.f 0),(2,m2),(3,m3),(4,I many),(5,.aE a 0 19 1),(6,RO),(7,I p.length)]) (h1:=h1.set a W) ?_ ?_
    · rw[nL,Hi (e':=[(47,.aD a sn),(46,I G),(45,.aD c.f 0),(44,I sn),(43,.aK (ints vQ) p.length),(42,I p.length),(41,RO),(40,.aE a 0 19 1),(0,.aD c.f 0),(2,m2),(3,m3),(4,I many),(5,.aE a 0 19 1),(6,RO),(7,I p.length)]) (h':=h1.set a W) (gs:=[h,h1,h1.set a W])]
      · simp only[go_sem]
      · simp only[I]at *
        simp only[AN,DI,DA,DM,DL,bU.aO,go_sem,ia,hv,k1,a1,hg1,hst]
      · refine AR (fun k hk=> ?_) rfl
        obtain rfl:k=1:=by simpa using hk
        refine AQ (o:=⟨some 44,.load false 1 (.t 43),none⟩) (g:=h1) (h':=h1) (d:=44) (u:=I sn) rfl rfl rfl rfl ?_ ?_
        · simp only[aj,go_sem,hv]
        · simp only[go_sem,I,Em]
    · simp only[I]at *
      simp only[go_sem,w2]
   have st2:Ft c (vU (H6 c) 3 S).2 (h1.set a (ints (o.set sn ((vU (H6 c) 3 S).1:Nat)))) ov:=k2.wV (by simp) (by simp) fun i hi=>by
    rw[H.dp,if_neg]
    rintro rfl
    rcases hi with hi|hi
    · exact hac hi
    · exact hoa hi
   obtain⟨e',h',q1,q2,q3,q4,q5,q6,q7,q8,q9,q10⟩:=Gp a many hmany m2 m3 q (p++[(sn:Int)]) (o.set sn ((vU (H6 c) 3 S).1:Nat)) _ _ ov (by rw[hp];simp) st2 hoa hac (by rw[H.dp,if_pos rfl,hg1];rfl) (by simpa using ho) (by simp [k3.fl];exact hf)
   refine⟨e',h',tN step q1,q2,q3,q4,q5, ?_, ?_,by rw[q8];simp [k3.fl],by have:=k3.nx;simp at q9;omega,fun i i1 i2 i4 i5=> ?_⟩
   · rw[zD];exact q6
   · rw[zD];exact q7
   · rw[q10 i (by have:=k3.nx;simp;omega) i2 i4 i5,H.dp,if_neg i5,k3.D9 i i1 i2 i4]
theorem Kc {c:FC} {S:SS} {h:H} {ov:AV} (cl:List Int) (hcl:cl.length<1000) (st:Ft c S h ov) (he:S.e=0) (many:Nat) (hm:many≤400):
 ∃ h' S' v, aR AP.A 53 [.aD c.f 0, wq cl, I many] h = some (v, h') ∧ Ft c S' h' ov ∧ FF c h ov h' ov ∧ match wI c.text cl many (8 * c.text.size + 1) [] S.at_ with
   |some (L,p)=>S'={S with at_:=p}∧L.length=many∧nJ h' v (ints L)∧∀j,v.id?=some j→h.next≤j
   |none=>S'.e=700:=by
 obtain⟨h',S',q1,q2,q3⟩:=EZ h cl hcl many hm (8* c.text.size+1) [] S h ov .aP st he (by omega) (FF.refl _ _ _) (.inl ⟨rfl,rfl⟩) (by simp) (fun j q=>by cases q) (fun j hj=>st.lt hj)
 have close:∀e' v,Lp AP.A [0,1,2,7] AP.f53L1 [(0,.aD c.f 0),(1,wq cl),(2,I many),(7,.aP)] h=some (.exit 0,e',h')→look e' 7=v→aR AP.A 53 [.aD c.f 0,wq cl,I many] h=some (v,h'):=by
  intro e' v r1 r2
  refine tZ (fn:=AP.f53) (e:=[(6,v)]) (vs:=[v]) rfl rfl rfl ?_ rfl
  simp only[I]at *
  simp only[AP.f53,go_sem,sG,r1,r2]
 cases hL:wI c.text cl many (8* c.text.size+1) [] S.at_ with
 | some q =>
   rw[hL]at q3
   obtain⟨r1,r2,e',v',r3,r4,r5,r6⟩:=q3
   exact⟨h',S',v',close e' v' r3 r4,q1,q2,r1,r2,r5,r6⟩
 | none =>
   rw[hL]at q3
   obtain⟨r1,⟨e',v',r3,r4⟩|⟨e',r3,r4⟩⟩:=q3
   · exact⟨h',S',v',close e' v' r3 r4,q1,q2,r1⟩
   · refine⟨h',S',.aP, ?_,q1,q2,r1⟩
     refine tZ (fn:=AP.f53) (e:=e') (vs:=[.aP]) rfl rfl rfl ?_ (by simp only[AP.f53,cw,nC,r4];rfl)
     simp only[I]at *
     simp only[AP.f53,go_sem,sG,r3]
theorem J4 (t:ByteArray) (most:Int) (out:List Nat) {p:Nat} (hp:¬p+14≤8* t.size):A4 t most p out=.error 700:=by
 unfold A4
 split
 · dsimp only
   split
   · rfl
   · have:∀m,yq t m (p+10)=none:=fun m=>by rw[yq,if_neg (by omega)]
     rw[this]
 · rfl
theorem J8 {c : FC} {S : SS} {h : H} {ov : AV} (st : Ft c S h ov) (he : S.e = 0) :
 ∃h' ov' S',aR AP.A 24 [.aD c.f 0] h=some (.bM [],h')∧Ft c S' h' ov'∧FF c h ov h' ov'∧Fin (A4 c.text c.most S.at_ S.out) S':=by
 obtain⟨h1,a1,a2,a3⟩:=yO st 5 5 rfl (by omega)
 obtain⟨h2,b1,b2,b3⟩:=yO a2 5 5 rfl (by omega)
 obtain⟨h3,d1,d2,d3⟩:=yO b2 4 4 rfl (by omega)
 obtain⟨A,hA⟩:∃n,n=(wC c 5 S).1:=⟨_,rfl⟩
 obtain⟨S1,hS1⟩:∃n,n=(wC c 5 S).2:=⟨_,rfl⟩
 rw[←hA]at a1;rw[←hS1]at a2 b1 b2 d1 d2
 obtain⟨B,hB⟩:∃n,n=(wC c 5 S1).1:=⟨_,rfl⟩
 obtain⟨S2,hS2⟩:∃n,n=(wC c 5 S1).2:=⟨_,rfl⟩
 rw[←hB]at b1;rw[←hS2]at b2 d1 d2
 obtain⟨C,hC⟩:∃n,n=(wC c 4 S2).1:=⟨_,rfl⟩
 obtain⟨S3,hS3⟩:∃n,n=(wC c 4 S2).2:=⟨_,rfl⟩
 rw[←hC]at d1;rw[←hS3]at d2
 have g5:∀S,(wC c 5 S).1<32:=fun S=>by
  unfold wC;split
  · simpa using wQ c.text S.at_ 5
  · simp
 have hA32:A<32:=hA ▸ g5 S
 have hB32:B<32:=hB ▸ g5 S1
 have hC16:C<16:=by
  rw[hC];unfold wC;split
  · simpa using wQ c.text S2.at_ 4
  · simp
 have w1:IntKind.wrap .i64 (257+(A:Int))=((A+257:Nat):Int):=by rw[show 257+(A:Int)=((A+257:Nat):Int)by omega];exact vL (by omega)
 have w2:IntKind.wrap .i64 (1+(B:Int))=((B+1:Nat):Int):=by rw[show 1+(B:Int)=((B+1:Nat):Int)by omega];exact vL (by omega)
 have w3:IntKind.wrap .i64 (4+(C:Int))=((C+4:Nat):Int):=by rw[show 4+(C:Int)=((C+4:Nat):Int)by omega];exact vL (by omega)
 have gf3:=d2.gf
 have he3:S3.e=0∨S3.e=700:=by rw[hS3];exact Dz c 4 _ (by rw[hS2];exact Dz c 5 _ (by rw[hS1];exact Dz c 5 S (.inl he)))
 have fr3:=(a3.trans b3).trans d3
 have bad:(S3.e≠0∨286<A+257∨30<B+1)→∃h' ov' S',aR AP.A 24 [.aD c.f 0] h=some (.bM [],h')∧Ft c S' h' ov'∧FF c h ov h' ov'∧S'.e=700∧(700:Int)≠0:=by
  intro hb
  obtain⟨h4,f1,f2,f3⟩:=y7 d2
  refine⟨h4,ov,v8 700 S3, ?_,f2,fr3.trans f3,by rcases he3 with q|q<;>simp [v8,q],by decide⟩
  refine tZ (fn:=AP.f24) (e:=[]) (vs:=[]) rfl rfl rfl ?_ rfl
  by_cases c1:S3.e=0
  · have c1':=uJ c1
    by_cases c2:286<A+257
    · have c2':(286:Int)<((A+257:Nat):Int):=by omega
      simp only[I]at *
      simp only[AP.f24,go_sem,a1,b1,d1,w1,w2,w3,gf3,c1',XS c2',f1]
    · have c2':¬(286:Int)<((A+257:Nat):Int):=by omega
      have c3':(30:Int)<((B+1:Nat):Int):=by
       rcases hb with q|q|q
       · exact absurd c1 q
       · exact absurd q c2
       · omega
      simp only[I]at *
      simp only[AP.f24,go_sem,a1,b1,d1,w1,w2,w3,gf3,c1',XP c2',XS c3',f1]
  · have c1':=uK c1
    simp only[I]at *
    simp only[AP.f24,go_sem,a1,b1,d1,w1,w2,w3,gf3,c1',f1]
 by_cases hp:S.at_+14≤8* c.text.size
 · unfold A4
   have e1:wC c 5 S=(vP c.text S.at_ 5,{S with at_:=S.at_+5}):=by rw[wC,if_pos (by omega)]
   rw[e1]at hA hS1;dsimp only at hA hS1
   have e2:wC c 5 {S with at_:=S.at_+5}=(vP c.text (S.at_+5) 5,{S with at_:=S.at_+5+5}):=by rw[wC,if_pos (by show S.at_+5+5≤_;omega)]
   rw[hS1,e2]at hB hS2;dsimp only at hB hS2
   have e3:wC c 4 {S with at_:=S.at_+5+5}=(vP c.text (S.at_+5+5) 4,{S with at_:=S.at_+5+5+4}):=by rw[wC,if_pos (by show S.at_+5+5+4≤_;omega)]
   rw[hS2,e3]at hC hS3;dsimp only at hC hS3
   rw[if_pos (show S.at_+10≤8* c.text.size by omega)]
   dsimp only
   rw[←hA,←hB]
   by_cases hbig:286<A+257∨30<B+1
   · rw[if_pos hbig];exact bad (.inr hbig)
   rw[if_neg hbig]
   have he30:S3.e=0:=by rw[hS3];exact he
   have hat3:S3.at_=S.at_+14:=by rw[hS3]
   have c1':(S3.e !=0)=false:=uJ he30
   have c2':¬(286:Int)<((A+257:Nat):Int):=by omega
   have c3':¬(30:Int)<((B+1:Nat):Int):=by omega
   have w4:IntKind.wrap .i64 (((A+257:Nat):Int)+((B+1:Nat):Int))=((A+257+(B+1):Nat):Int):=by
    rw[show((A+257:Nat):Int)+((B+1:Nat):Int)=((A+257+(B+1):Nat):Int)by omega];exact vL (by omega)
   obtain⟨a,ha⟩:∃a,a=h3.next:=⟨_,rfl⟩
   obtain⟨g0,hg0⟩:∃g,g=h3.alloc (ints (List.replicate 19 0)):=⟨_,rfl⟩
   have al:=d2.alloc (ints (List.replicate 19 0))
   rw[←hg0]at al
   have hga:g0.get a=some (ints (List.replicate 19 0)):=by rw[hg0,H.aW,if_pos ha]
   have oc:=Ji g0
   have bt:∀e:Env,aY e (.iR 1 8 [.int .i64 0] (.c (.int .i64 19)) (.c (.int .i64 19)))=some (ints (List.replicate 19 0),fun i=>.aE i 0 19 1):=fun _=>rfl
   have hac:a≠c.f:=fun e=>by have:=d2.lt (.inl e);omega
   have hoa:ov.id?≠some a:=fun e=>by have:=d2.lt (.inr e);omega
   obtain⟨e4,h4,l1,l2,l3,l4,l5,l6,l7,l8,l9,l10⟩:=Gp (c:=c) a (C+4) (by omega) (I (A+257:Nat)) (I (B+1:Nat)) (vQ.take (C+4)) [] (List.replicate 19 0) S3 g0 ov rfl al.1 hoa hac hga (by simp) (by rw[hg0,ha];simp;exact d2.nx)
   have l1':Lp AP.A [0,2,3,4,5,6,7] AP.f24L0 [(0,.aD c.f 0),(2,I (A+257:Nat)),(3,I (B+1:Nat)),(4,I (C+4:Nat)),(5,.aE a 0 19 1),(6,wP vQ),(7,I 0)] g0=some (.exit 0,e4,h4):=l1
   clear l1
   have hn0:g0.next=h3.next+1:=by rw[hg0];simp
   have fr4:FF c h ov h4 ov:=by
    refine⟨by rw[l8,al.2.fl,fr3.fl], ?_,fun id i1 i2 i4=> ?_,fun i hi=>.inl hi⟩
    · have:=fr3.nx;omega
    · have:=fr3.nx
      rw[l10 id (by omega) i2 i4 (by omega),al.2.D9 id (by omega) i2 i4,fr3.D9 id i1 i2 i4]
   obtain⟨cl,hcl⟩:∃cl,cl=(zD (H6 c) (vQ.take (C+4)) (List.replicate 19 0) S3).1:=⟨_,rfl⟩
   obtain⟨S4,hS4⟩:∃cl,cl=(zD (H6 c) (vQ.take (C+4)) (List.replicate 19 0) S3).2:=⟨_,rfl⟩
   rw[←hS4]at l6;rw[←hcl]at l7
   have hcll:cl.length=19:=by rw[hcl,Fk];simp
   have hol:(vQ.take (C+4)).length=C+4:=by rw[Yb];show min (C+4) 19=C+4;omega
   have gW:Rd h4 (.aE a 0 19 1) (ints cl):=by
    refine⟨?_,by intro s e;cases e⟩
    simp [aS,l7,hcll,vD]
   have ck:=CO h4 (.aE a 0 19 1) cl (by omega) gW
   have bk:=Bj h4 (.aE a 0 19 1) cl (by omega) gW
   have gf4:=l6.gf
   have he4:S4.e=0∨S4.e=700:=by rw[hS4];exact ND _ _ _ _ (.inl he30)
   have bad2:(S4.e≠0∨we cl≠0)→∃h' ov' S',aR AP.A 24 [.aD c.f 0] h=some (.bM [],h')∧Ft c S' h' ov'∧FF c h ov h' ov'∧S'.e=700∧(700:Int)≠0:=by
    intro hb
    obtain⟨h5,f1,f2,f3⟩:=y7 l6
    refine⟨h5,ov,v8 700 S4, ?_,f2,fr4.trans f3,by rcases he4 with q|q<;>simp [v8,q],by decide⟩
    refine tZ (fn:=AP.f24) (e:=[]) (vs:=[]) rfl rfl rfl ?_ rfl
    by_cases q1:S4.e=0
    · have q1':=uJ q1
      have q2':(we cl !=0)=true:=uK (by rcases hb with q|q;exact absurd q1 q;exact q)
      simp only[I]at *
      simp only[AP.f24,go_sem,a1,b1,d1,w1,w2,w3,gf3,c1',XP c2',XP c3',bt,←hg0,←ha,oc,sG,l1',l2,l3,l4,l5,gf4,q1',ck,q2',f1]
    · have q1':=uK q1
      simp only[I]at *
      simp only[AP.f24,go_sem,a1,b1,d1,w1,w2,w3,gf3,c1',XP c2',XP c3',bt,←hg0,←ha,oc,sG,l1',l2,l3,l4,l5,gf4,q1',f1]
   have hlens:yq c.text (A+257+(B+1)) (S.at_+10)=if S.at_+14+3* (C+4)≤8* c.text.size then(if we (B4 c.text (vQ.take (C+4)) (S.at_+14) (List.replicate 19 0))=0 then wI c.text (B4 c.text (vQ.take (C+4)) (S.at_+14) (List.replicate 19 0)) (A+257+(B+1)) (8* c.text.size+1) [] (S.at_+14+3* (C+4))else none)else none:=by
    have hC':vP c.text (S.at_+10) 4=C:=hC.symm
    unfold yq
    rw[if_pos (show S.at_+10+4≤8* c.text.size by omega)]
    dsimp only
    rw[hC',show S.at_+10+4=S.at_+14 by omega]
   by_cases hp2:S.at_+14+3* (C+4)≤8* c.text.size
   · have ok := HJ (H6 c) (vQ.take (C + 4)) (List.replicate 19 0) S3 he30 (by rw [hol, hat3]; exact hp2)
     rw[ok]at hcl hS4
     dsimp only at hcl hS4
     rw[hol]at hS4
     rw[hat3]at hcl
     have hcl':cl=B4 c.text (vQ.take (C+4)) (S.at_+14) (List.replicate 19 0):=hcl
     rw[if_pos hp2,←hcl']at hlens
     by_cases hck:we cl=0
     · rw [if_pos hck] at hlens
       have he40:S4.e=0:=by rw[hS4];exact he30
       have hat4:S4.at_=S.at_+14+3* (C+4):=by rw[hS4];show S3.at_+3* (C+4)=_;rw[hat3]
       have q1':=uJ he40
       have q2':=uJ hck
       obtain⟨h5,S5,av,m1,m2,m3,m4⟩:=Kc cl (by omega) l6 he40 (A+257+(B+1)) (by omega)
       have gf5:=m2.gf
       rw[hat4]at m4
       rw[hlens]
       cases hL:wI c.text cl (A+257+(B+1)) (8* c.text.size+1) [] (S.at_+14+3* (C+4))with
       | none =>
         rw[hL]at m4
         have q3':(S5.e !=0)=true:=uK (by rw[m4];decide)
         refine⟨h5,ov,S5, ?_,m2,fr4.trans m3,m4,by decide⟩
         refine tZ (fn:=AP.f24) (e:=[(0,.aD c.f 0),(2,I (A+257:Nat)),(8,av),(71,.bool true)]) (vs:=[]) rfl rfl rfl ?_ rfl
         simp only[I]at *
         simp only[AP.f24,go_sem,a1,b1,d1,w1,w2,w3,gf3,c1',XP c2',XP c3',bt,←hg0,←ha,oc,sG,l1',l2,l3,l4,l5,gf4,q1',ck,q2',bk,w4,m1,gf5,q3']
       | some q =>
         obtain⟨L,p2⟩:=q
         rw[hL]at m4
         obtain⟨m4,m5,m6,m7⟩:=m4
         have he5:S5.e=0:=by rw[m4];exact he40
         have q3':=uJ he5
         have hrng:yP L:=GH (t:=c.text) (many:=A+257+(B+1)) (p:=S.at_+10) (p2:=p2) (by rw[hlens,hL])
         dsimp only
         obtain⟨id,hav,hgid⟩:∃id,av=.aE id 0 (A+257+(B+1)) 1∧h5.get id=some (ints L):=by
          rcases m6 with ⟨_,q⟩|⟨id,q1,q2,_⟩
          · have:=Yh List.length q;rw[pY,m5,XR]at this;omega
          · exact⟨id,by rw[q1,pY,m5],q2⟩
         have hil:(ints L).length=A+257+(B+1):=by rw[pY,m5]
         have s1:=Hl (h:=h5) (k:=A+257) hgid hil (vm _) (by omega)
         have s2:=JV (h:=h5) (k:=A+257) hgid hil (by omega)
         rw[show A+257+(B+1)-(A+257)=B+1 by omega]at s2
         rw[←hav]at s1 s2
         obtain⟨la,hla⟩:∃x,x=L.take (A+257):=⟨_,rfl⟩
         obtain⟨lb,hlb⟩:∃x,x=L.drop (A+257):=⟨_,rfl⟩
         have hlal:la.length=A+257:=by rw[hla,Yb];omega
         have hlbl:lb.length=B+1:=by rw[hlb,List.length_drop];omega
         have ra:Rd h5 (.aE id 0 (A+257) 1) (ints la):=by
          refine⟨?_,by intro s e;cases e⟩
          simp only[aS,if_true,hgid,vi]
          rw[if_pos (by rw[hil];omega),hla];simp [ints,List.map_take];omega
         have rb:Rd h5 (.aE id (A+257) (B+1) 1) (ints lb):=by
          refine⟨?_,by intro s e;cases e⟩
          simp only[aS,if_true,hgid,vi]
          rw[if_pos (by rw[hil];omega),hlb]
          have:(ints (L.drop (A+257))).length=B+1:=by rw[pY,←hlb,hlbl]
          rw[this,ints,ints,←List.map_drop,Yy,vD (by rw[Yu,←hlb,hlbl];omega)]
         rw[←hla,←hlb]
         have cka:=CO h5 _ la (by omega) ra
         have ckb:=CO h5 _ lb (by omega) rb
         have hra:yP la:=fun y hy=>hrng y (Yt (hla ▸ hy))
         have hrb:yP lb:=fun y hy=>hrng y (List.mem_of_mem_drop (hlb ▸ hy))
         have sgb:=N1 h5 _ lb (by omega) hrb rb
         have mka:=Bj h5 _ la (by omega) ra
         have mkb:=Bj h5 _ lb (by omega) rb
         have hel0:la.getD 256 0=L.getD 256 0:=by
          rw[hla,XN,XN,vH,if_pos (by omega)]
         have hel:=BU (l:=L) (i:=256) (by omega)
         rw[←hel0]at hel
         obtain⟨id2,i1,i2,i3⟩:=m6.elem hel
         have i2':fM 1 av (I 256)=some (.aD id2 256):=i2
         clear i2
         by_cases hbad:we la≠0∨la.getD 256 0=0∨(we lb≠0∧xL lb=false)
         · rw [if_pos hbad]
           obtain⟨h6,f1,f2,f3⟩:=y7 m2
           refine⟨h6,ov,v8 700 S5, ?_,f2,(fr4.trans m3).trans f3,by simp [v8,he5],by decide⟩
           refine tZ (fn:=AP.f24) (e:=[]) (vs:=[]) rfl rfl rfl ?_ rfl
           by_cases x1:we la=0
           · have x1':=uJ x1
             by_cases x2:la.getD 256 0=0
             · have x2':=uI x2
               simp only[I]at *
               simp only[AP.f24,go_sem,a1,b1,d1,w1,w2,w3,gf3,c1',XP c2',XP c3',bt,←hg0,←ha,oc,sG,l1',l2,l3,l4,l5,gf4,q1',ck,q2',bk,w4,m1,gf5,q3',XU,Yf,s1,s2,cka,x1',i2',i3,hel,x2',f1]
             · have x2':=uH x2
               obtain⟨x3,x4⟩:we lb≠0∧xL lb=false:=by
                rcases hbad with q|q|q
                · exact absurd x1 q
                · exact absurd q x2
                · exact q
               have x3':=uK x3
               rw[x4]at sgb
               simp only[I]at *
               simp only[AP.f24,go_sem,a1,b1,d1,w1,w2,w3,gf3,c1',XP c2',XP c3',bt,←hg0,←ha,oc,sG,l1',l2,l3,l4,l5,gf4,q1',ck,q2',bk,w4,m1,gf5,q3',XU,Yf,s1,s2,cka,x1',i2',i3,hel,x2',ckb,x3',sgb,f1]
           · have x1':=uK x1
             simp only[I]at *
             simp only[AP.f24,go_sem,a1,b1,d1,w1,w2,w3,gf3,c1',XP c2',XP c3',bt,←hg0,←ha,oc,sG,l1',l2,l3,l4,l5,gf4,q1',ck,q2',bk,w4,m1,gf5,q3',XU,Yf,s1,s2,cka,x1',f1]
         · rw [if_neg hbad]
           have x1:we la=0:=Decidable.byContradiction fun q=>hbad (.inl q)
           have x2:la.getD 256 0≠0:=fun q=>hbad (.inr (.inl q))
           have x1':=uJ x1
           have x2':=uH x2
           obtain⟨h6,ov6,S6,r1,r2,r3,r4⟩:=IG la lb (by omega) (by omega) m2 he5
           have last:aL (aR AP.A) bq (.iP [0,1,2,3,4,5,6,7,8,9] [⟨(some 99),.mv (.t 0),none⟩,⟨(some 100),.mv (.t 8),none⟩,⟨(some 101),.mv (.t 2),none⟩,⟨(some 102),.sl 1 (.t 100) none (some (.t 101)) none,none⟩,⟨(some 103),.call (.c (.fn 21 [] [])) [(.t 102)],none⟩,⟨(some 104),.mv (.t 8),none⟩,⟨(some 105),.mv (.t 2),none⟩,⟨(some 106),.sl 1 (.t 104) (some (.t 105)) none none,none⟩,⟨(some 107),.call (.c (.fn 21 [] [])) [(.t 106)],none⟩,⟨(some 108),.call (.c (.fn 20 [] [])) [(.t 99),(.t 103),(.t 107)],none⟩] [(7,[0])] []) [(0,.aD c.f 0),(2,I (A+257:Nat)),(8,av)] h5=some (.normal,[],h6):=by
            rw[Hi (e':=[(108,.bM []),(107,wq lb),(106,.aE id (A+257) (B+1) 1),(105,I (A+257:Nat)),(104,av),(103,wq la),(102,.aE id 0 (A+257) 1),(101,I (A+257:Nat)),(100,av),(99,.aD c.f 0),(0,.aD c.f 0),(2,I (A+257:Nat)),(8,av)]) (h':=h6) (gs:=[h5,h5,h5,h6])]
            · simp only[go_sem]
            · simp only[AN,DI,DA,DM,DL,bU.aO,go_sem,XU,Yf,s1,s2,mka,mkb,r1]
            · refine AR (fun k hk=> ?_) rfl
              obtain rfl:k=0:=by simpa using hk
              refine AQ (o:=⟨some 106,.sl 1 (.t 104) (some (.t 105)) none none,none⟩) (g:=h5) (h':=h5) (d:=106) (u:=.aE id (A+257) (B+1) 1) rfl rfl rfl rfl ?_ ?_
              · simp only[aj,go_sem,XU,Yf,s2]
              · simp only[go_sem,CL]
           refine⟨h6,ov6,S6, ?_,r2,(fr4.trans m3).trans r3, ?_⟩
           · refine wF (fn:=AP.f24) (e:=[]) (vs:=[]) rfl rfl rfl ?_ rfl
             by_cases x3:we lb=0
             · have x3':=uJ x3
               simp only[I]at *
               simp only[AP.f24,go_sem,a1,b1,d1,w1,w2,w3,gf3,c1',XP c2',XP c3',bt,←hg0,←ha,oc,sG,l1',l2,l3,l4,l5,gf4,q1',ck,q2',bk,w4,m1,gf5,q3',XU,Yf,s1,s2,cka,x1',i2',i3,hel,x2',ckb,x3',last]
             · have x3':=uK x3
               have x4:xL lb=true:=by
                cases hs:xL lb with
                |true=>rfl
                |false=>exact absurd (.inr (.inr ⟨x3,hs⟩)) hbad
               rw[x4]at sgb
               simp only[I]at *
               simp only[AP.f24,go_sem,a1,b1,d1,w1,w2,w3,gf3,c1',XP c2',XP c3',bt,←hg0,←ha,oc,sG,l1',l2,l3,l4,l5,gf4,q1',ck,q2',bk,w4,m1,gf5,q3',XU,Yf,s1,s2,cka,x1',i2',i3,hel,x2',ckb,x3',sgb,last]
           · have h1:S5.at_=p2:=by rw[m4]
             have h2:S5.out=S.out:=by rw[m4,hS4,hS3]
             rw[h1,h2]at r4;exact r4
     · rw[if_neg hck]at hlens
       rw[hlens]
       exact bad2 (.inr hck)
   · rw[if_neg hp2]at hlens
     rw[hlens]
     refine bad2 (.inl ?_)
     rw[hS4,Fj (H6 c) _ _ S3 he30 (by rw[hat3];exact hp) (by rw[hol,hat3];show 8* c.text.size<_;omega)];decide
 · rw[J4 c.text c.most S.out hp]
   refine bad (.inl ?_)
   rw[hS3,hS2,hS1]
   unfold wC
   by_cases q1:S.at_+5≤8* c.text.size
   · simp only[if_pos q1]
     by_cases q2:S.at_+5+5≤8* c.text.size
     · simp only[if_pos q2];rw[if_neg (by omega)];simp [v8,he]
     · simp only[if_neg q2,v8,he,if_true];split<;>simp
   · simp only[if_neg q1,v8,he,if_true]
     split
     · split<;>simp
     · simp;split<;>simp
theorem Gm {c:FC} {S:SS} {h:H} {ov:AV} (st:Ft c S h ov) (b:Int) (hs:b≠0∨(b=0∧S.e≠0)):
 ∃e',Lp AP.A [7,8] AP.f8L0 [(7,.aD c.f 0),(8,I b)] h=some (.exit 0,e',h)∧look e' 7=.aD c.f 0:=by
 have gf:=st.gf
 refine⟨[(7,.aD c.f 0),(29,.bool false)],tM ?_,rfl⟩
 rcases hs with hb|⟨hb,he⟩
 · have c1:=uH hb
   simp only[I]at *
   simp only[AP.f8L0,go_sem,c1]
 · have c1:=uI hb
   have c2:=uH he
   simp only[I]at *
   simp only[AP.f8L0,go_sem,c1,gf,c2]
theorem Gl {c : FC} : ∀ (f : Nat) (S : SS) (h : H) (ov : AV), Ft c S h ov → S.e = 0 → 8 * c.text.size < S.at_ + f →
 ∃e' h' ov' S',Lp AP.A [7,8] AP.f8L0 [(7,.aD c.f 0),(8,I 0)] h=some (.exit 0,e',h')∧look e' 7=.aD c.f 0∧Ft c S' h' ov'∧FF c h ov h' ov'∧Fin (wY c.text c.most f S.at_ S.out) S'
 |0,S,h,ov,st,he,hk=>by have:=st.xY;omega
 | f + 1, S, h, ov, st, he, hk => by
   have gf:=st.gf
   rw[he]at gf
   obtain⟨h1,a1,a2,a3⟩:=yO st 1 1 rfl (by omega)
   obtain⟨h2,b1,b2,b3⟩:=yO a2 2 2 rfl (by omega)
   obtain⟨A,hA⟩:∃n,n=(wC c 1 S).1:=⟨_,rfl⟩
   obtain⟨S1,hS1⟩:∃n,n=(wC c 1 S).2:=⟨_,rfl⟩
   rw[←hA]at a1;rw[←hS1]at a2 b1 b2
   obtain⟨B,hB⟩:∃n,n=(wC c 2 S1).1:=⟨_,rfl⟩
   obtain⟨S2,hS2⟩:∃n,n=(wC c 2 S1).2:=⟨_,rfl⟩
   rw[←hB]at b1;rw[←hS2]at b2
   have gf2:=b2.gf
   have fr2:=a3.trans b3
   rw[wY]
   unfold xC
   by_cases hp:S.at_+3≤8* c.text.size
   · rw [if_pos hp]
     have e1:wC c 1 S=(vP c.text S.at_ 1,{S with at_:=S.at_+1}):=by rw[wC,if_pos (by omega)]
     rw[e1]at hA hS1;dsimp only at hA hS1
     have e2:wC c 2 {S with at_:=S.at_+1}=(vP c.text (S.at_+1) 2,{S with at_:=S.at_+1+2}):=by rw[wC,if_pos (by show S.at_+1+2≤_;omega)]
     rw[hS1,e2]at hB hS2;dsimp only at hB hS2
     have he2:S2.e=0:=by rw[hS2];exact he
     have hat:S2.at_=S.at_+3:=by rw[hS2]
     have hout:S2.out=S.out:=by rw[hS2]
     have hA2:A<2:=by rw[hA];simpa using wQ c.text S.at_ 1
     dsimp only
     rw[←hA,←hB]
     have ce:=uJ he2
     have n0:((0:Int)==0)=true:=rfl
     have z0:((0:Int)==0)=true:=rfl
     have close:∀(r:Rs) (h':H) (ov':AV) (S':SS),aL (aR AP.A) bq AP.f8L0 (ay [(7,.aD c.f 0),(8,I 0)] [7,8]) h=some (.normal,[(7,.aD c.f 0),(8,I A)],h')→Ft c S' h' ov'→FF c h2 ov h' ov'→Fin r S'→(∀q,r=.ok q→S.at_<q.1)→
      ∃e' h' ov' S',Lp AP.A [7,8] AP.f8L0 [(7,.aD c.f 0),(8,I 0)] h=some (.exit 0,e',h')∧look e' 7=.aD c.f 0∧Ft c S' h' ov'∧FF c h ov h' ov'∧Fin (match (match r with| .ok q=>(.ok (A==1,q.1,q.2):Except Int (Bool×Nat×List Nat))| .error k=>.error k)with| .error k=>.error k| .ok (last,p2,o)=>if last then .ok (p2,o)else wY c.text c.most f p2 o) S':=by
      intro r h' ov' S' step q2 q3 q4 q5
      cases r with
      | error k =>
        have hs:(A:Int)≠0∨((A:Int)=0∧S'.e≠0):=by
         by_cases q:(A:Int)=0
         · exact .inr ⟨q,by rw[q4.1];exact q4.2⟩
         · exact .inl q
        obtain⟨e',r1,r2⟩:=Gm q2 A hs
        exact⟨e',h',ov',S',tN step r1,r2,q2,fr2.trans q3,q4⟩
      | ok q =>
        obtain⟨p2,o⟩:=q
        simp only[Fin]at q4
        dsimp only
        by_cases hA1:A=1
        · have hb:(A==1)=true:=by rw[hA1];rfl
          rw[hb]
          simp only[if_true]
          obtain⟨e',r1,r2⟩:=Gm q2 A (.inl (by omega))
          exact⟨e',h',ov',S',tN step r1,r2,q2,fr2.trans q3,q4⟩
        · have hA0:A=0:=by omega
          have hb:(A==1)=false:=by rw[hA0];rfl
          rw[hb]
          simp only[vj,vJ]
          rw[hA0]at step
          subst q4
          have h5:=q5 (p2,o) rfl
          dsimp only at h5
          obtain⟨e',h'',ov'',S'',r1,r2,r3,r4,r5⟩:=Gl f _ h' ov' q2 rfl (by dsimp only;omega)
          exact⟨e',h'',ov'',S'',tN step r1,r2,r3,(fr2.trans q3).trans r4,r5⟩
     by_cases d0:B=0
     · rw [if_pos d0]
       obtain⟨h',ov',S',q1,q2,q3,q4⟩:=L6 b2 he2
       rw[hat,hout]at q4
       have d0':((B:Int)==0)=true:=uI (by omega)
       refine close _ h' ov' S' ?_ q2 q3 q4 (fun q hq=> ?_)
       · simp only[I]at *
         simp only[AP.f8L0,go_sem,gf,a1,b1,gf2,ce,d0',q1]
       · unfold xV at hq
         dsimp only at hq
         split at hq
         · split at hq
           · obtain⟨p2,o⟩:=q
             have:=zW hq;dsimp only;omega
           · cases hq
         · cases hq
     · rw [if_neg d0]
       have d0':((B:Int)==0)=false:=uH (by omega)
       by_cases d1:B=1
       · rw[if_pos d1]
         have d1':((B:Int)==1)=true:=uI (by omega)
         have f1:=IJ h2
         have m1:=Bj h2 (wP wy) wy (by rw[zZ];omega) (yu _ _)
         have f2:=KZ h2
         have m2:=Bj h2 (wP (List.replicate 30 5)) (List.replicate 30 5) (by rw[X3];omega) (yu _ _)
         obtain⟨h',ov',S',q1,q2,q3,q4⟩:=IG wy (List.replicate 30 5) (by rw[zZ];omega) (by rw[X3];omega) b2 he2
         rw[hat,hout]at q4
         refine close _ h' ov' S' ?_ q2 q3 q4 (fun q hq=>by obtain⟨p2,o⟩:=q;have:=yh hq;dsimp only;omega)
         generalize wq wy=bf at *
         generalize wq (List.replicate 30 5)=bd at *
         generalize wP wy=vf at *
         generalize wP (List.replicate 30 5)=vd at *
         simp only[I]at *
         simp only[AP.f8L0,go_sem,gf,a1,b1,gf2,ce,d0',d1',f1,m1,f2,m2,q1]
       · rw [if_neg d1]
         have d1':((B:Int)==1)=false:=uH (by omega)
         by_cases d2:B=2
         · rw [if_pos d2]
           have d2':((B:Int)==2)=true:=uI (by omega)
           obtain⟨h',ov',S',q1,q2,q3,q4⟩:=J8 b2 he2
           rw[hat,hout]at q4
           refine close _ h' ov' S' ?_ q2 q3 q4 (fun q hq=> ?_)
           · simp only[I]at *
             simp only[AP.f8L0,go_sem,gf,a1,b1,gf2,ce,d0',d1',d2',q1]
           · have hb:xC c.text c.most S.at_ S.out=.ok (vP c.text S.at_ 1==1,q.1,q.2):=by
              unfold xC
              rw[if_pos hp]
              dsimp only
              rw[←hB,if_neg d0,if_neg d1,if_pos d2,hq]
             have:=zP hb
             exact this
         · rw[if_neg d2]
           have d2':((B:Int)==2)=false:=uH (by omega)
           obtain⟨h',q1,q2,q3⟩:=y7 b2
           refine close (.error 700) h' ov _ ?_ q2 q3 ⟨by simp [v8,he2],by decide⟩ (fun q hq=>by cases hq)
           simp only[I]at *
           simp only[AP.f8L0,go_sem,gf,a1,b1,gf2,ce,d0',d1',d2',q1]
   · rw [if_neg hp]
     have he2:S2.e=700:=by
      by_cases q1:S.at_+1≤8* c.text.size
      · have e1:wC c 1 S=(vP c.text S.at_ 1,{S with at_:=S.at_+1}):=by rw[wC,if_pos q1]
        rw[e1]at hS1;dsimp only at hS1
        have e2:wC c 2 S1=(0,{S1 with e:=700}):=by rw[wC,if_neg (by rw[hS1];show¬S.at_+1+2≤_;omega),v8,if_pos (by rw[hS1];exact he)]
        rw[e2]at hS2
        rw[hS2]
      · have e1:wC c 1 S=(0,{S with e:=700}):=by rw[wC,if_neg q1,v8,if_pos he]
        rw[e1]at hS1;dsimp only at hS1
        have e2:wC c 2 S1=(0,S1):=by rw[wC,if_neg (by rw[hS1];show¬S.at_+2≤_;omega),v8,if_neg (by rw[hS1];simp)]
        rw[e2]at hS2
        rw[hS2,hS1]
     have ce:(S2.e !=0)=true:=uK (by rw[he2];decide)
     refine⟨[(7,.aD c.f 0),(8,I A),(9,I B),(38,.bool true)],h2,ov,S2,tM ?_,rfl,b2,fr2,he2,by decide⟩
     simp only[I]at *
     simp only[AP.f8L0,go_sem,gf,a1,b1,gf2,ce]
theorem J9 (h:H) (t:ByteArray) (most:Int) (hs:t.size<1125899906842624):aR AP.A 8 [.str t,I most] h=some (Mc (wT t most),h):=by
 unfold wT
 by_cases c1:most<0
 · rw[if_pos (.inl c1)]
   refine uz (fn:=AP.f8) (h2:=h.dN) (e:=[(4,.str ⟨#[]⟩),(5,I 0),(6,I 700)]) rfl rfl rfl ?_ rfl rfl
   simp only[I]at *
   simp only[AP.f8,go_sem,XS c1]
 by_cases c2:8192<most
 · rw[if_pos (.inr c2)]
   refine uz (fn:=AP.f8) (h2:=h.dN) (e:=[(4,.str ⟨#[]⟩),(5,I 0),(6,I 700)]) rfl rfl rfl ?_ rfl rfl
   simp only[I]at *
   simp only[AP.f8,go_sem,XP c1,XS c2]
 rw[if_neg (by omega)]
 obtain⟨h1,hh1⟩:∃g,g=h.dN.alloc [.str t,I 0,.aP,I most,I 0]:=⟨_,rfl⟩
 have st:Ft ⟨h.next,t,most⟩ ⟨0,[],0⟩ h1 .aP:=by
  refine⟨?_,.inl ⟨rfl,rfl⟩, ?_,by simp [AV.id?], ?_,hs,by simp,by simp;omega,by show most≤900000;omega⟩
  · rw[hh1,H.aW,if_pos (show h.next=h.dN.next from rfl)];rfl
  · rw[hh1];simp
  · rw[hh1];simp
 obtain⟨e',h3,ov,S,q1,q2,q3,q4,q5⟩:=Gl (8* t.size+1) ⟨0,[],0⟩ h1 .aP st rfl (by show 8* t.size<0+(8* t.size+1);omega)
 have gf:=q3.gf
 have bx:∀e:Env,look e 19=.agg [.str t,.int .i64 0,.aP,.int .i64 most,.int .i64 0]→aY e (.box 5 (.t 19))=some ([.str t,.int .i64 0,.aP,.int .i64 most,.int .i64 0],fun i=>.aD i 0):=by
  intro e q;simp only[aY,sI,q];rfl
 have fl1:dO [.str ⟨#[]⟩,.int .i64 0] [(0,1,.str t)]=some [.str t,.int .i64 0]:=rfl
 have fl2:dO [.str ⟨#[]⟩,.int .i64 0,.aP,.int .i64 0,.int .i64 0] [(0,2,.agg [.str t,.int .i64 0]),(3,1,.int .i64 most)]=some [.str t,.int .i64 0,.aP,.int .i64 most,.int .i64 0]:=rfl
 have hn:h.dN.next=h.next:=rfl
 dsimp only at q5
 cases hi:wY t most (8* t.size+1) 0 []with
 | error k =>
   rw[hi]at q5
   have c3:(S.e !=0)=true:=uK (by rw[q5.1];exact q5.2)
   have hk:S.e=k:=q5.1
   refine uz (fn:=AP.f8) (h2:=h3) (e:=[(4,.str ⟨#[]⟩),(5,I 0),(6,I k)]) rfl rfl rfl ?_ rfl rfl
   rw[hk]at gf c3
   simp only[I]at *
   simp only[AP.f8,go_sem,XP c1,XP c2,hn,XX,Yk,fl1,fl2]
   rw[bx _ rfl]
   simp only[go_sem,←hh1,hn,sG,q1,q2,gf,c3]
 | ok z =>
   obtain⟨p,o⟩:=z
   rw[hi]at q5
   simp only[Fin]at q5
   have c3:(S.e !=0)=false:=uJ (by rw[q5])
   have hb:=KK q3.own
   subst q5
   dsimp only at gf hb c3
   have hle:=q3.xY
   dsimp only at hle
   have w2:IntKind.wrap .i64 ((p:Int)+7)=((p+7:Nat):Int):=vL (n:=p+7) (by omega)
   have qd:bj .quo (.int .i64 ((p+7:Nat):Int)) (.int .i64 8)=some (.int .i64 (((p+7)/8:Nat):Int)):=by
    rw[sg _ _ _ (by omega),show(8:Int)=((8:Nat):Int)from rfl,yw,vL (by omega)]
   refine uz (fn:=AP.f8) (h2:=h3) (e:=[(4,.str (bytesOf o)),(5,I ((p+7)/8:Nat)),(6,I 0)]) rfl rfl rfl ?_ rfl rfl
   generalize (p+7)/8=P at *
   generalize p+7=P7 at *
   simp only[I]at *
   simp only[AP.f8,go_sem,XP c1,XP c2,hn,XX,Yk,fl1,fl2]
   rw[bx _ rfl]
   simp only[go_sem,←hh1,hn,sG,q1,q2,gf,c3,w2,hb,qd]
abbrev E7 (k:Int):Prop:=k=700∨k=701
theorem FE {t:ByteArray} {most k:Int}:∀{n p:Nat} {out:List Nat},xp t most n p out=.error k→E7 k
 |0,p,out,h=>by cases h
 | n + 1, p, out, h => by
   unfold xp at h
   split at h
   · split at h
     · cases h;exact .inr rfl
     · exact FE h
   · cases h;exact .inl rfl
theorem JF {t:ByteArray} {most k:Int} {p:Nat} {out:List Nat} (h:xV t most p out=.error k):E7 k:=by
 unfold xV at h
 dsimp only at h
 split at h
 · split at h
   · exact FE h
   · cases h;exact .inl rfl
 · cases h;exact .inl rfl
theorem Gg {most k:Int} {d:Nat}:∀{n:Nat} {out:List Nat},ya most d n out=.error k→E7 k
 |0,out,h=>by cases h
 | n + 1, out, h => by
   unfold ya at h
   split at h
   · cases h;exact .inr rfl
   · exact Gg h
theorem LQ {t : ByteArray} {most k : Int} {dl : List Int} {y p : Nat} {out : List Nat} (h : yW t most dl y p out = .error k) : E7 k := by
 unfold yW at h
 split at h
 · cases h;exact .inl rfl
 · split at h
   · split at h
     · cases h;exact .inl rfl
     · split at h
       · cases h;exact .inl rfl
       · split at h
         · split at h
           · cases h
           · rename_i q;cases h;exact Gg q
         · cases h;exact .inl rfl
   · cases h;exact .inl rfl
theorem A3 {t : ByteArray} {most k : Int} {ll dl : List Int} : ∀ {n p : Nat} {out : List Nat}, xy t most ll dl n p out = .error k → E7 k
 |0,p,out,h=>by cases h;exact .inl rfl
 | n + 1, p, out, h => by
   unfold xy at h
   split at h
   · cases h;exact .inl rfl
   · split at h
     · split at h
       · cases h;exact .inr rfl
       · exact A3 h
     · split at h
       · cases h
       · split at h
         · exact A3 h
         · rename_i q;cases h;exact LQ q
theorem M8 {t : ByteArray} {most k : Int} {p : Nat} {out : List Nat} (h : A4 t most p out = .error k) : E7 k := by
 unfold A4 at h
 dsimp only at h
 split at h
 · split at h
   · cases h;exact .inl rfl
   · split at h
     · cases h;exact .inl rfl
     · split at h
       · cases h;exact .inl rfl
       · exact A3 h
 · cases h;exact .inl rfl
theorem JW {t : ByteArray} {most k : Int} {p : Nat} {out : List Nat} (h : xC t most p out = .error k) : E7 k := by
 unfold xC at h
 dsimp only at h
 split at h
 · split at h
   · cases h
   · rename_i q
     cases h
     split at q
     · exact JF q
     · split at q
       · exact A3 q
       · split at q
         · exact M8 q
         · cases q;exact .inl rfl
 · cases h;exact .inl rfl
theorem D7 {t:ByteArray} {most k:Int}:∀{n p:Nat} {out:List Nat},wY t most n p out=.error k→E7 k
 | 0, p, out, h => by
   unfold wY at h
   cases h;exact .inl rfl
 | n + 1, p, out, h => by
   unfold wY at h
   split at h
   · rename_i q;cases h;exact JW q
   · split at h
     · cases h
     · exact D7 h
theorem C6 {t:ByteArray} {most k:Int} (h:wT t most=.error k):E7 k:=by
 unfold wT at h
 split at h
 · cases h;exact .inl rfl
 · split at h
   · cases h
   · rename_i q;cases h;exact D7 q
end Ab
namespace Ab
def Dj (l:List Nat) (i j:Nat):List Nat:=(l.set i (l.getD j 0)).set j (l.getD i 0)
theorem zN (l:List Nat) (i j:Nat):(Dj l i j).length=l.length:=by simp [Dj]
theorem HY {l:List Nat} {i j k:Nat} (hi:i<l.length) (hj:j<l.length):(Dj l i j).getD k 0=if k=j then l.getD i 0 else if k=i then l.getD j 0 else l.getD k 0:=by
 unfold Dj
 simp only[XN,X8,X6]
 by_cases a:j=k
 · subst a;simp [hj]
 · by_cases b:i=k
   · subst b;simp [hi,a,Ne.symm a]
   · simp [a,b,Ne.symm a,Ne.symm b]
theorem AS {l:List Nat} {i j:Nat} (hi:i<l.length) (hj:j<l.length):(Dj l i j).Perm l:=by
 rw[List.perm_iff_count]
 intro a
 unfold Dj
 have e1:l.getD i 0=l[i]:=by rw[XN,XQ hi];rfl
 have e2:l.getD j 0=l[j]:=by rw[XN,XQ hj];rfl
 rw[e1,e2,List.count_set (by simpa using hj),List.count_set hi]
 have e3:(l.set i l[j])[j]'(by simpa using hj)=l[j]:=by
  rw[List.getElem_set];split
  · rfl
  · rfl
 rw[e3]
 have c1:l[i]==a→1≤l.count a:=fun h=>List.count_pos_iff.2 (by rw[←eq_of_beq h];exact X4 hi)
 by_cases p:(l[i]==a)=true
 · have:=c1 p
   by_cases q:(l[j]==a)=true
   · simp only[p,q,if_true];omega
   · simp only[p,q,if_true];simp;omega
 · by_cases q:(l[j]==a)=true
   · simp only[p,q,if_true];simp
   · simp only[p,q];simp
section
variable (ky:Nat→Int)
def W7 (lo n ex:Nat) (l:List Nat):Prop:=(∀c,0<c→c<n→lo≤(c-1)/2→(c-1)/2≠ex→ky (l.getD ((c-1)/2) 0)≤ky (l.getD c 0))∧
 (∀c,0<c→c<n→(c-1)/2=ex→0<ex→lo≤(ex-1)/2→ky (l.getD ((ex-1)/2) 0)≤ky (l.getD c 0))
def JS (lo n:Nat) (l:List Nat):Prop:=∀c,0<c→c<n→lo≤(c-1)/2→ky (l.getD ((c-1)/2) 0)≤ky (l.getD c 0)
def FV (n i:Nat) (l:List Nat):Nat:=if 2* i+2<n∧ky (l.getD (2* i+2) 0)<ky (l.getD (2* i+1) 0)then 2* i+2 else 2* i+1
def sink (n:Nat):Nat→Nat→List Nat→List Nat
 |0,_,l=>l
 |f+1,i,l=>if n≤2* i+1 then l else if ky (l.getD (FV ky n i l) 0)<ky (l.getD i 0)then sink n f (FV ky n i l) (Dj l i (FV ky n i l))else l
def Fx:Nat→Nat→List Nat→List Nat
 |0,_,l=>l
 |f+1,j,l=>if j=0 then l else if ky (l.getD j 0)<ky (l.getD ((j-1)/2) 0)then Fx f ((j-1)/2) (Dj l ((j-1)/2) j)else l
variable {ky}
theorem Et {n i:Nat} {l:List Nat} (h:2* i+1<n):(FV ky n i l=2* i+1∨FV ky n i l=2* i+2)∧FV ky n i l<n:=by
 unfold FV;split
 · rename_i c;exact⟨.inr rfl,c.1⟩
 · exact⟨.inl rfl,h⟩
theorem Me {n i:Nat} {l:List Nat} (h:2* i+1<n) {c:Nat} (h0:0<c) (hc:c<n) (hp:(c-1)/2=i):ky (l.getD (FV ky n i l) 0)≤ky (l.getD c 0):=by
 have:c=2* i+1∨c=2* i+2:=by omega
 unfold FV;split
 · rename_i q
   rcases this with rfl|rfl
   · exact Int.le_of_lt q.2
   · exact Yq _
 · rename_i q
   rcases this with rfl|rfl
   · exact Yq _
   · by_cases z:ky (l.getD (2* i+2) 0)<ky (l.getD (2* i+1) 0)
     · exact absurd ⟨hc,z⟩ q
     · omega
theorem HU {lo n : Nat} : ∀ (f i : Nat) (l : List Nat), n ≤ i + f → lo ≤ i → n ≤ l.length → W7 ky lo n i l → JS ky lo n (sink ky n f i l) ∧ (sink ky n f i l).Perm l ∧ (∀ k, n ≤ k → (sink ky n f i l).getD k 0 = l.getD k 0)
 | 0, i, l, hf, hlo, hl, hx => by
   refine⟨fun c h0 hc hp=>hx.1 c h0 hc hp (by omega),Yw _,fun _ _=>rfl⟩
 | f + 1, i, l, hf, hlo, hl, hx => by
   rw[sink]
   by_cases c0:n≤2* i+1
   · rw[if_pos c0]
     exact⟨fun c h0 hc hp=>hx.1 c h0 hc hp (by omega),Yw _,fun _ _=>rfl⟩
   · rw [if_neg c0]
     obtain⟨kr,kn⟩:=Et (ky:=ky) (n:=n) (i:=i) (l:=l) (by omega)
     have kl:∀c,0<c→c<n→(c-1)/2=i→ky (l.getD (FV ky n i l) 0)≤ky (l.getD c 0):=fun c h0 hc hp=>Me (by omega) h0 hc hp
     generalize FV ky n i l=j at kr kn kl ⊢
     by_cases c1:ky (l.getD j 0)<ky (l.getD i 0)
     · rw [if_pos c1]
       have g:∀k,(Dj l i j).getD k 0=if k=j then l.getD i 0 else if k=i then l.getD j 0 else l.getD k 0:=fun k=>HY (by omega) (by omega)
       have ji:i<j:=by omega
       have jp:(j-1)/2=i:=by omega
       obtain ⟨a1, a2, a3⟩ := HU (lo := lo) (n := n) f j (Dj l i j) (by omega) (by omega) (by rw [zN]; exact hl) ⟨by
        intro c h0 hc hp hne
        rw[g,g]
        by_cases e1:c=j
        · subst e1
          rw[if_neg (by omega),if_pos jp,if_pos rfl];omega
        · rw [if_neg hne, if_neg e1]
          by_cases e2:(c-1)/2=i
          · rw[if_pos e2,if_neg (by omega)];exact kl c h0 hc e2
          · rw[if_neg e2]
            by_cases e3:c=i
            · subst e3
              rw[if_pos rfl]
              exact hx.2 j (by omega) kn jp h0 hp
            · rw[if_neg e3];exact hx.1 c h0 hc hp e2,by
        intro c h0 hc hp hj0 hlp
        rw[g,g,if_neg (by omega),if_pos jp,if_neg (by omega),if_neg (by omega)]
        have:=hx.1 c h0 hc (by omega) (by omega)
        rwa [hp]at this⟩
       refine⟨a1,a2.trans (AS (by omega) (by omega)),fun k hk=> ?_⟩
       rw[a3 k hk,g,if_neg (by omega),if_neg (by omega)]
     · rw[if_neg c1]
       refine⟨fun c h0 hc hp=> ?_,Yw _,fun _ _=>rfl⟩
       by_cases e:(c-1)/2=i
       · have:=kl c h0 hc e
         rw[e];omega
       · exact hx.1 c h0 hc hp e
theorem Dh {n:Nat}:∀(f i:Nat) (l:List Nat),(sink ky n f i l).length=l.length
 |0,_,_=>rfl
 | f + 1, i, l => by
   rw[sink]
   split
   · rfl
   · split
     · rw[Dh f,zN]
     · rfl
theorem G4 {n:Nat}:∀{f i:Nat} {l:List Nat},n≤l.length→(sink ky n f i l).Perm l
 |0,_,_,_=>Yw _
 | f + 1, i, l, hl => by
   rw[sink]
   split
   · exact Yw _
   · rename_i c
     obtain⟨kr,kn⟩:=Et (ky:=ky) (n:=n) (i:=i) (l:=l) (by omega)
     split
     · exact(G4 (by rw[zN];exact hl)).trans (AS (by omega) (by omega))
     · exact Yw _
def W6 (n j:Nat) (l:List Nat):Prop:=(∀c,0<c→c<n→c≠j→ky (l.getD ((c-1)/2) 0)≤ky (l.getD c 0))∧
 (∀c,0<c→c<n→(c-1)/2=j→0<j→ky (l.getD ((j-1)/2) 0)≤ky (l.getD c 0))
theorem Lj {n : Nat} : ∀ (f j : Nat) (l : List Nat), j ≤ f → j < n → n ≤ l.length → W6 (ky := ky) n j l → JS ky 0 n (Fx ky f j l) ∧ (Fx ky f j l).Perm l
 |0,j,l,hf,hj,hl,hx=>⟨fun c h0 hc _=>hx.1 c h0 hc (by omega),Yw _⟩
 | f + 1, j, l, hf, hj, hl, hx => by
   rw[Fx]
   by_cases c0:j=0
   · rw[if_pos c0];exact⟨fun c h0 hc _=>hx.1 c h0 hc (by omega),Yw _⟩
   · rw [if_neg c0]
     by_cases c1:ky (l.getD j 0)<ky (l.getD ((j-1)/2) 0)
     · rw [if_pos c1]
       obtain⟨p,hp⟩:∃p,p=(j-1)/2:=⟨_,rfl⟩
       rw[←hp]at c1 ⊢
       have g:∀k,(Dj l p j).getD k 0=if k=j then l.getD p 0 else if k=p then l.getD j 0 else l.getD k 0:=fun k=>HY (by omega) (by omega)
       obtain⟨a1,a2⟩:=Lj (n:=n) f p (Dj l p j) (by omega) (by omega) (by rw[zN];exact hl) ⟨by
        intro c h0 hc hne
        rw[g,g]
        by_cases e1:c=j
        · subst e1
          rw[if_pos rfl,←hp,if_neg (by omega),if_pos rfl];omega
        · rw[if_neg e1,if_neg hne]
          have h1:=hx.1 c h0 hc e1
          by_cases e2:(c-1)/2=j
          · rw[if_pos e2]
            have:=hx.2 c h0 hc e2 (by omega)
            rwa [←hp]at this
          · rw[if_neg e2]
            by_cases e3:(c-1)/2=p
            · rw[if_pos e3];rw[e3]at h1;omega
            · rw[if_neg e3];exact h1,by
        intro c h0 hc hcp hp0
        rw[g,g,if_neg (by omega),if_neg (by omega)]
        have h1:=hx.1 p (by omega) (by omega) (by omega)
        by_cases e1:c=j
        · rw[if_pos e1];exact h1
        · rw[if_neg e1,if_neg (by omega)]
          have:=hx.1 c h0 hc e1
          rw[hcp]at this;omega⟩
       exact⟨a1,a2.trans (AS (by omega) (by omega))⟩
     · rw[if_neg c1]
       refine⟨fun c h0 hc _=> ?_,Yw _⟩
       by_cases e:c=j
       · subst e;omega
       · exact hx.1 c h0 hc e
theorem Jz:∀(f j:Nat) (l:List Nat),(Fx ky f j l).length=l.length
 |0,_,_=>rfl
 | f + 1, j, l => by
   rw[Fx]
   split
   · rfl
   · split
     · rw[Jz f,zN]
     · rfl
theorem Nq {n:Nat} {l:List Nat} (h:JS ky 0 n l):∀k,k<n→ky (l.getD 0 0)≤ky (l.getD k 0):=by
 intro k
 induction k using Nat.strongRecOn with
 | ind k ih =>
   intro hk
   by_cases c:k=0
   · subst c;exact Yq _
   · have h1:=ih ((k-1)/2) (by omega) (by omega)
     have h2:=h k (by omega) hk (by omega)
     omega
def BA (n:Nat):Nat→List Nat→List Nat
 |0,l=>l
 |i+1,l=>BA n i (sink ky n n i l)
theorem I6 {n:Nat}:∀(i:Nat) (l:List Nat),n≤l.length→JS ky i n l→JS ky 0 n (BA (ky:=ky) n i l)∧(BA (ky:=ky) n i l).Perm l
 |0,l,hl,h=>⟨h,Yw _⟩
 | i + 1, l, hl, h => by
   obtain⟨a1,a2,a3⟩:=HU (ky:=ky) (lo:=i) (n:=n) n i l (by omega) (vm _) hl ⟨fun c h0 hc hp hne=>h c h0 hc (by omega),fun c h0 hc hp h1 h2=>by omega⟩
   obtain⟨b1,b2⟩:=I6 i (sink ky n n i l) (by rw[Dh];exact hl) a1
   exact⟨b1,b2.trans a2⟩
end
open Go
theorem dt {p:Prop} [Decidable p] (h:p):decide p=true:=XS h
theorem df {p:Prop} [Decidable p] (h:¬p):decide p=false:=XP h
theorem Wl {a b:Int} (h:a=b):(a==b)=true:=by simp [h]
theorem Wk {a b:Int} (h:¬a=b):(a==b)=false:=by simp [h]
theorem Wp {a b:Int} (h:¬a=b):(a !=b)=true:=by simp [h]
theorem Wo {a b:Int} (h:a=b):(a !=b)=false:=by simp [h]
theorem wi {n:Int} (h: -9223372036854775808≤n∧n<9223372036854775808):IntKind.wrap .i64 n=n:=ud h.1 (by omega)
theorem wb {n:Int} (h:0≤n∧n<256):IntKind.wrap .u8 n=n:=by
 simp [IntKind.wrap,IntKind.bits,IntKind.signed];omega
theorem Sm {i:Int} {n:Nat} (h:0≤i∧i<n):cN (.int .i64 i) n=some i.toNat:=by
 simp [cN,nR,h]
def at_:Nat→aG→aG
 |0,.seq a _=>a
 |0,c=>c
 |n+1,.seq _ b=>at_ n b
 |_+1,c=>c
def Lv:Nat→aG→aG
 |0,c=>c
 |n+1,.seq _ b=>Lv n b
 |_+1,c=>c
theorem xR (a b:aG):at_ 0 (.seq a b)=a:=rfl
theorem xW (n:Nat) (a b:aG):at_ (n+1) (.seq a b)=at_ n b:=rfl
theorem Oe (c:aG):Lv 0 c=c:=rfl
theorem Od (n:Nat) (a b:aG):Lv (n+1) (.seq a b)=Lv n b:=rfl
theorem Bu {h:H} {id i:Nat} (e:¬i=id):(h.del id).get i=h.get i:=by rw[H.dQ,if_neg e]
theorem Dd (h:H):h.dN.next=h.next:=ve rfl rfl
theorem CW (h:H):h.dN.floor=h.next:=ve rfl rfl
theorem CX (h:H) (i:Nat):h.dN.get i=h.get i:=ve rfl rfl
theorem HC (h:H) (i:Nat):(h.del i).next=h.next:=ve rfl rfl
theorem Hs (h:H) (i:Nat):(h.del i).floor=h.floor:=ve rfl rfl
theorem vZ {h:H} {cs:List AV} {i:Nat} (e:i=h.next):(h.alloc cs).get i=some cs:=by rw[H.aW,if_pos e]
theorem vW {h:H} {cs:List AV} {i:Nat} (e:¬i=h.next):(h.alloc cs).get i=h.get i:=by rw[H.aW,if_neg e]
theorem v9 {h:H} {cs:List AV} {id i:Nat} (e:i=id):(h.set id cs).get i=(h.get i).map fun _=>cs:=by rw[H.dp,if_pos e,e]
theorem vN {h:H} {cs:List AV} {id i:Nat} (e:¬i=id):(h.set id cs).get i=h.get i:=by rw[H.dp,if_neg e]
def yG {α:Type} (b:Bool) (x:α):Option α:=if b then some x else none
theorem KQ {α:Type} (x:α):yG true x=some x:=rfl
theorem Lq (h:H) (id off n:Nat) (v cs:List AV):uD h id off n v (some cs)=yG (decide (h.floor≤id)&&(decide (v.length=n)&&(decide (off+n≤cs.length)&&AV.aC v))) (h.set id (setFrom cs off v)):=by
 simp only[uD,vi,yG]
 by_cases c:h.floor≤id∧v.length=n∧off+n≤cs.length∧AV.aC v=true
 · rw[if_pos c];obtain⟨c1,c2,c3,c4⟩:=c;simp [c1,c2,c3,c4]
 · rw[if_neg c,if_neg];simpa using c
theorem Oo (n:Nat) (cs:List AV) (off:Nat):gW true n cs off=yG (decide (off+n≤cs.length)) (.agg ((cs.drop off).take n)):=by
 simp only[gW,yG,if_true,decide_eq_true_eq]
theorem Nf (z:List AV):dO z []=some z:=rfl
def IH (r:List (Nat×Nat×AV)) (p:Option (List AV)):Option (List AV):=p.bind fun z=>dO z r
theorem KY (r:List (Nat×Nat×AV)) (z:List AV):IH r (some z)=dO z r:=rfl
theorem Nd (z:List AV) (o n:Nat) (v:AV) (r:List (Nat×Nat×AV)):dO z ((o,n,v)::r)=IH r (yG (decide (v.cells.length=n)&&(decide (o+n≤z.length)&&AV.aC v.cells)) (setFrom z o v.cells)):=by
 simp only[dO,yG]
 by_cases c:v.cells.length=n∧o+n≤z.length∧AV.aC v.cells=true
 · rw[if_pos c];obtain⟨c1,c2,c3⟩:=c;simp [c1,c2,c3,IH]
 · rw[if_neg c,if_neg]; · rfl
   simpa using c
def Ii (p:Option (List AV)) (f:Nat→AV):Option (List AV×(Nat→AV)):=p.bind fun cs=>some (cs,f)
theorem MR (cs:List AV) (f:Nat→AV):Ii (some cs) f=some (cs,f):=rfl
theorem F7 (e:Env) (z:List AV):aY e (.alloc z)=Ii (yG (AV.aC z) z) (fun i=>.aD i 0):=by
 simp only[aY,yG];split<;>rfl
theorem KM (e:Env) (n:Nat) (x:X):aY e (.box n x)=Ii (yG (decide ((x.ev e).cells.length=n)&&AV.aC (x.ev e).cells) (x.ev e).cells) (fun i=>.aD i 0):=by
 simp only[aY,yG]
 by_cases c:(x.ev e).cells.length=n∧AV.aC (x.ev e).cells=true
 · rw[if_pos c];simp [c,Ii]
 · rw[if_neg c,if_neg]; · rfl
   simpa using c
theorem EE (e:Env) (sz len:Nat) (z:List AV) (ps:List (Nat×X)):aY e (.cD sz len z ps)=Ii (IH (ps.map fun p=>(p.1* sz,sz,p.2.ev e)) (yG (decide (z.length=sz)&&(decide (0<sz)&&AV.aC z)) (dG len z))) (fun i=>.aE i 0 len sz):=by
 simp only[aY,yG]
 by_cases c:z.length=sz∧0<sz∧AV.aC z=true
 · rw[if_pos c];simp [c,Ii,IH]
 · rw[if_neg c,if_neg]; · rfl
   simpa using c
theorem NS (z:List AV):dG 0 z=[]:=rfl
theorem NR (n:Nat) (z:List AV):dG (n+1) z=z++dG n z:=rfl
def RQ (wV:List Nat) (e:Env) (h:H) (b:Bool):dz:=if b then some (.normal,ay e wV,h)else none
theorem Nn (wV:List Nat) (e:Env) (h:H):RQ wV e h true=some (.normal,ay e wV,h):=rfl
def Wm (c:ah) (ops:List ak) (fl:List (Nat×List Nat)) (wV:List Nat) (p:Option (Env×H×List H)):dz:=p.bind fun q=>RQ wV q.1 q.2.1 (aZ c ops q.1 q.2.2 fl)
theorem Pk (c:ah) (ops:List ak) (fl:List (Nat×List Nat)) (wV:List Nat) (e:Env) (h:H) (gs:List H):Wm c ops fl wV (some (e,h,gs))=RQ wV e h (aZ c ops e gs fl):=rfl
theorem KJ (c:ah) (l:bH) (ord:List Nat) (ops:List ak) (x:Nat×List Nat) (fl:List (Nat×List Nat)) (wV:List Nat) (e:Env) (h:H):aL c l (.iP ord ops (x::fl) wV) e h=Wm c ops (x::fl) wV (aN c ops e h):=by
 rw[aL];rfl
theorem PF (c:ah) (ops:List ak) (e:Env) (gs:List H):aZ c ops e gs []=true:=rfl
def Vs (c:ah) (ops:List ak) (e:Env) (gs:List H) (i:Nat) (ks:List Nat):Bool:=ks.all (bF c ops e gs i)
theorem PD (c:ah) (ops:List ak) (e:Env) (gs:List H) (i:Nat) (ks:List Nat) (r:List (Nat×List Nat)):aZ c ops e gs ((i,ks)::r)=(Vs c ops e gs i ks&&aZ c ops e gs r):=rfl
theorem PB (c:ah) (ops:List ak) (e:Env) (gs:List H) (i:Nat):Vs c ops e gs i []=true:=rfl
def O7 (c : ah) (e : Env) (o : Option ak) (g : Option H) : Bool := match o, g with
 | some o, some g =>
   if o.op.aI then
    match o.dst.map (look e)with
    |some (.bM [])=>true
    | some v => (match v.id?, aY e o.op with
      |some id,some b=>(match g.get id with|some cs=>AV.fP cs b.1|none=>false)
      |_,_=>false)
    |none=>false
   else match o.dst.map (look e)with
    |some v=>(match aj c o e g with|some (u,_)=>AV.beq u v|none=>false)
    |none=>false
 |_,_=>false
theorem PA (c:ah) (ops:List ak) (e:Env) (gs:List H) (i k:Nat) (r:List Nat):Vs c ops e gs i (k::r)=(O7 c e (ops[i]?) (gs[k]?)&&Vs c ops e gs i r):=by
 unfold Vs
 rw[List.all_cons]
 congr 1
def Wh (v:AV) (p:Option (AV×H)):Bool:=match p with|some (u,_)=>AV.beq u v|none=>false
theorem PC (v u:AV) (h:H):Wh v (some (u,h))=AV.beq u v:=rfl
def Sg (b:Bool) (x y:Bool):Bool:=if b then x else y
theorem Py (x y:Bool):Sg false x y=y:=rfl
def F0 (c:ah) (e:Env) (o:Option ak) (g:Option H):Bool:=O7 c e o g
theorem Px (c:ah) (e:Env) (d:Nat) (op:bU) (g:H):O7 c e (some ⟨some d,op,none⟩) (some g)=Sg op.aI (F0 c e (some ⟨some d,op,none⟩) (some g)) (Wh (look e d) (ai c e g op)):=by
 unfold F0 O7 Sg
 dsimp only
 cases op.aI<;>rfl
theorem Pw (c:ah) (e:Env) (d:Nat) (op:bU) (k:Nat) (w:Bool) (g:H):O7 c e (some ⟨some d,op,some (k,w)⟩) (some g)=Sg op.aI (F0 c e (some ⟨some d,op,some (k,w)⟩) (some g)) (Wh (look e d) (lj w c e g op (look e k))):=by
 unfold F0 O7 Sg
 dsimp only
 cases op.aI with
 |true=>rfl
 |false=>rw[mY];rfl
mutual
theorem beq_refl:∀a:AV,AV.beq a a=true
 | .bot=>rfl
 | .bool b=>by simp [AV.beq]
 | .int k n=>by simp [AV.beq]
 | .str s=>En s
 | .cn=>rfl
 | .aD i o=>by simp [AV.beq]
 | .aK c o=>by simp [AV.beq,yx c]
 | .aP=>rfl
 | .aE i o l z=>by simp [AV.beq]
 | .aV t c o l z=>by simp [AV.beq,yx c]
 | .fn f a b=>by simp [AV.beq,yx a,yx b]
 | .eN=>rfl
 | .iface t v=>by simp [AV.beq,beq_refl v]
 | .eO=>rfl
 | .agg c=>by simp [AV.beq,yx c]
 | .bM c=>by simp [AV.beq,yx c]
theorem yx:∀l:List AV,AV.fP l l=true
 |[]=>rfl
 |a::l=>by simp [AV.fP,beq_refl a,yx l]
end
theorem Pz (x y:Bool):Sg true x y=x:=rfl
def Sp (c:Option (List AV)) (d:List AV):Bool:=match c with|some cs=>AV.fP cs d|none=>false
theorem Pf (c d:List AV):Sp (some c) d=AV.fP c d:=rfl
def HV (v : AV) (b : Option (List AV × (Nat → AV))) (g : H) : Bool := match v with
 | .bM []=>true
 | v => match v.id?, b with
   |some id,some b=>Sp (g.get id) b.1
   |_,_=>false
theorem N5 (b:Option (List AV×(Nat→AV))) (g:H):HV (.bM []) b g=true:=rfl
theorem N4 (i o:Nat) (cs:List AV) (f:Nat→AV) (g:H):HV (.aD i o) (some (cs,f)) g=Sp (g.get i) cs:=rfl
theorem N3 (i o l z:Nat) (cs:List AV) (f:Nat→AV) (g:H):HV (.aE i o l z) (some (cs,f)) g=Sp (g.get i) cs:=rfl
theorem Ey {c : ah} {e : Env} {d : Nat} {op : bU} {gd : Option (Nat × Bool)} {g : H} (hb : op.aI = true) : F0 c e (some ⟨some d, op, gd⟩) (some g) = HV (look e d) (aY e op) g := by
 unfold F0 O7
 dsimp only
 rw[hb,if_pos rfl]
 show (match some (look e d) with
  |some (.bM [])=>true
  | some v => (match v.id?, aY e op with
    |some id,some b=>(match g.get id with|some cs=>AV.fP cs b.1|none=>false)
    |_,_=>false)
  |none=>false)=_
 generalize look e d=v
 unfold HV Sp
 cases v with
 |bM vs=>cases vs<;>rfl
 |_=>cases aY e op<;>rfl
theorem FD (c:ah) (e:Env) (d:Nat) (z:List AV) (gd:Option (Nat×Bool)) (g:H):F0 c e (some ⟨some d,.alloc z,gd⟩) (some g)=HV (look e d) (aY e (.alloc z)) g:=Ey rfl
theorem JE (c:ah) (e:Env) (d n:Nat) (x:X) (gd:Option (Nat×Bool)) (g:H):F0 c e (some ⟨some d,.box n x,gd⟩) (some g)=HV (look e d) (aY e (.box n x)) g:=Ey rfl
theorem Ef (c:ah) (e:Env) (d n m:Nat) (z:List AV) (ps:List (Nat×X)) (gd:Option (Nat×Bool)) (g:H):F0 c e (some ⟨some d,.cD n m z ps,gd⟩) (some g)=HV (look e d) (aY e (.cD n m z ps)) g:=Ey rfl
theorem G5 (c:ah) (e:Env) (d n m:Nat) (z:List AV) (x y:X) (gd:Option (Nat×Bool)) (g:H):F0 c e (some ⟨some d,.iR n m z x y,gd⟩) (some g)=HV (look e d) (aY e (.iR n m z x y)) g:=Ey rfl
theorem Ic (b:Bool):AV.beq (.bool b) (.bool b)=true:=by simp [AV.beq]
theorem Ih:AV.beq (.bM []) (.bM [])=true:=rfl
theorem Ie:AV.beq .aP .aP=true:=rfl
theorem F6:AV.beq .cn .cn=true:=rfl
theorem Nt (sz id off len:Nat) (i:AV):fM sz (.aE id off len sz) i=uN id off sz (cN i len):=by simp [fM,uN]
theorem Ns (t:Bool) (cells:List AV) (sz off len:Nat) (i:AV):fM sz (.aV t cells off len sz) i=uO cells off sz (cN i len):=by simp [fM,uO]
def yE (n:Nat) (z:List AV):List AV:=dG n z
def Pn (sz bytes:Nat) (zero:List AV) (l c:AV):Option (List AV×(Nat→AV)):=
 match l,c with
 | .int .i64 l,.int .i64 c=>Ii (yG (decide (0≤l)&&(decide (l≤c)&&(decide (c≤9223372036854775807)&&(decide ((bytes:Int)* c≤281474976710656)&&(decide (zero.length=sz)&&(decide (0<sz)&&AV.aC zero)))))) (yE c.toNat zero)) (fun i=>.aE i 0 l.toNat sz)
 |_,_=>none
theorem HB (sz bytes:Nat) (zero:List AV) (l c:Int):Pn sz bytes zero (.int .i64 l) (.int .i64 c)=Ii (yG (decide (0≤l)&&(decide (l≤c)&&(decide (c≤9223372036854775807)&&(decide ((bytes:Int)* c≤281474976710656)&&(decide (zero.length=sz)&&(decide (0<sz)&&AV.aC zero)))))) (yE c.toNat zero)) (fun i=>.aE i 0 l.toNat sz):=rfl
theorem Ij (e : Env) (sz bytes : Nat) (zero : List AV) (l c : X) : aY e (.iR sz bytes zero l c) = Pn sz bytes zero (l.ev e) (c.ev e) := by
 simp only[aY]
 cases l.ev e with
 | int k l => cases k <;> cases c.ev e with
   | int k2 c => cases k2 <;> first
     |rfl
     | (simp only [HB, yG]
        by_cases q:0≤l∧l≤c∧c≤9223372036854775807∧(bytes:Int)* c≤281474976710656∧zero.length=sz∧0<sz∧AV.aC zero=true
        · rw[if_pos q];obtain⟨q1,q2,q3,q4,q5,q6,q7⟩:=q
          rw[if_pos]
          · rfl
          · simp [q1,q2,q3,q4,q5,q6,q7]
        · rw[if_neg q,if_neg]
          · rfl
          · simpa using q)
   |_=>rfl
 |_=>cases c.ev e<;>rfl
theorem Bi (i o l z:Nat):jc false (.aE i o l z)=some (.int .i64 l):=rfl
theorem Hk:jc false .aP=some (.int .i64 0):=rfl
theorem JU (t:Bool) (c:List AV) (o l z:Nat):jc false (.aV t c o l z)=some (.int .i64 l):=rfl
theorem xD (s:ByteArray):jc true (.str s)=some (.int .i64 s.size):=rfl
theorem Og (a b:Nat):((a:Int)+(b:Int)).toNat=a+b:=by omega
theorem KD (a:Nat):((a:Int)).toNat=a:=by omega
def zq (s:ByteArray) (i:Nat):Nat:=((s[i]?).map (·.toNat)).getD 0
theorem Dp (s:ByteArray) (i:Nat):zq s i<256:=by
 unfold zq
 cases s[i]? with
 |none=>simp
 |some b=>simp;exact b.toNat_lt
theorem BT {s:ByteArray} {i:Int} (h:0≤i∧i<s.size):mC (.str s) (.int .i64 i)=some (.int .u8 (zq s i.toNat:Nat)):=by
 have hi:i.toNat<s.size:=by omega
 simp [mC,Sm h,zq,hi]
def DO {α:Type} (b:Bool) (x y:Option α):Option α:=if b then x else y
theorem NV {α:Type} (x y:Option α):DO true x y=x:=rfl
theorem NU {α:Type} (x y:Option α):DO false x y=y:=rfl
def Sb (n o k:Nat) (p:Option (List AV)):Option (Nat×List AV):=p.bind fun cs=>yG (decide (o+k* n≤cs.length)) (k,(cs.drop o).take (k* n))
theorem N2 (n o k:Nat) (cs:List AV):Sb n o k (some cs)=yG (decide (o+k* n≤cs.length)) (k,(cs.drop o).take (k* n)):=rfl
theorem Pu (h:H) (n p o k:Nat):aS h n (.aE p o k n)=Sb n o k (h.get p):=by
 simp only[aS,if_true,Sb]
 cases h.get p with
 |none=>rfl
 |some cs=>simp only[vi,yG,decide_eq_true_eq]
theorem Ps (h:H) (t:Bool) (n o k:Nat) (cs:List AV):aS h n (.aV t cs o k n)=yG (decide (o+k* n≤cs.length)) (k,(cs.drop o).take (k* n)):=by
 simp only[aS,if_true,yG,decide_eq_true_eq]
theorem Pt (h:H) (n:Nat):aS h n .aP=some (0,[]):=ve rfl rfl
theorem Pv (h:H) (s:ByteArray):aS h 1 (.str s)=some (s.size,s.data.toList.map fun b=>.int .u8 b.toNat):=ve rfl rfl
def Sn (h:H) (n z:Nat) (a:AV) (p:Option (Nat×List AV)):Option (AV×H):=p.bind fun r=>dJ h n z a r.1 r.2
theorem MO (h:H) (n z:Nat) (a:AV) (m:Nat) (bs:List AV):Sn h n z a (some (m,bs))=dJ h n z a m bs:=rfl
theorem Pe (h:H) (n z:Nat) (a b:AV):kM h n z a b=Sn h n z a (aS h n b):=ve rfl rfl
def VC (h:H) (n z p o k m:Nat) (bs:List AV) (q:Option (List AV)):Option (AV×H):=q.bind fun cs=>
 DO (decide (o+(k+m)* n≤cs.length)) (some (.aE p o (k+m) n,h.set p (setFrom cs (o+k* n) bs))) (DO (decide (o+k* n=cs.length)&&roomy z (k+m)) (some (.aE h.next 0 (k+m) n,(h.del p).alloc (cs.drop o++bs))) none)
theorem Pb (h:H) (n z p o k m:Nat) (bs cs:List AV):VC h n z p o k m bs (some cs)=DO (decide (o+(k+m)* n≤cs.length)) (some (.aE p o (k+m) n,h.set p (setFrom cs (o+k* n) bs))) (DO (decide (o+k* n=cs.length)&&roomy z (k+m)) (some (.aE h.next 0 (k+m) n,(h.del p).alloc (cs.drop o++bs))) none):=rfl
theorem Pd (h : H) (n z p o k m : Nat) (bs : List AV) : dJ h n z (.aE p o k n) m bs = DO (decide (m = 0)) (some (.aE p o k n, h)) (DO (AV.aC bs && (decide (0 < n) && decide (h.floor ≤ p))) (VC h n z p o k m bs (h.get p)) none) := by
 unfold dJ DO
 by_cases c:m=0
 · simp [c]
 · rw [if_neg c]
   simp only[decide_eq_true_eq,if_neg c]
   by_cases c1:AV.aC bs=false∨n=0
   · rw[if_pos c1,if_neg]
     rcases c1 with c1|c1
     · simp [c1]
     · simp [c1]
   · rw[if_neg c1]
     have q1:AV.aC bs=true:=by cases q:AV.aC bs with|true=>rfl|false=>exact absurd (.inl q) c1
     by_cases c2:h.floor≤p
     · have qq:(AV.aC bs&&(decide (0<n)&&decide (h.floor≤p)))=true:=by simp [q1,c2];omega
       simp only[true_and,if_pos c2,qq,if_true,VC,DO]
       cases h.get p with
       |none=>rfl
       |some cs=>simp only[vi,decide_eq_true_eq,vn]
     · have qq:(AV.aC bs&&(decide (0<n)&&decide (h.floor≤p)))=false:=by simp [c2]
       simp only[true_and,if_neg c2,qq];rfl
theorem Pc (h:H) (n z m:Nat) (bs:List AV):dJ h n z .aP m bs=DO (decide (m=0)) (some (.aP,h)) (DO (AV.aC bs&&(decide (0<n)&&roomy z m)) (some (.aE h.next 0 m n,h.alloc bs)) none):=by
 unfold dJ DO
 by_cases c:m=0
 · simp [c]
 · rw[if_neg c]
   simp only[decide_eq_true_eq,if_neg c]
   by_cases c1:AV.aC bs=false∨n=0
   · rw[if_pos c1,if_neg]
     rcases c1 with c1|c1
     · simp [c1]
     · simp [c1]
   · rw[if_neg c1]
     have q1:AV.aC bs=true:=by cases q:AV.aC bs with|true=>rfl|false=>exact absurd (.inl q) c1
     have q2:0<n:=by omega
     simp [q1,q2]
theorem xP {b n:Nat} (h:1≤b∧(n+n/4+512)* b≤281474976710656):roomy b n=true:=by simp only[roomy,h.1,h.2,and_self,decide_true]
theorem Pr {h:H} {n p o k:Nat} {m:Int} {cs:List AV} (hg:h.get p=some cs) (hn:0<n) (hk:o+k* n≤cs.length) (hm:0≤m∧m.toNat≤(cs.length-o)/n):sx h n (.aE p o k n) none (some (.int .i64 m)) none=some (.aE p o m.toNat n):=by
 have h1:k≤(cs.length-o)/n:=by rw[Nat.le_div_iff_mul_le hn];omega
 simp only[sx,hn,and_self,if_true,hg,vi,aB]
 rw[if_pos ⟨by omega,h1⟩]
 have h3:j9 (.int .i64 m) ((cs.length-o)/n)=some m.toNat:=by
  simp only[j9,nR,vi]
  rw[if_pos]
  omega
 simp [h3]
theorem Ni {α:Type} {C:α→List AV} {n:Nat} (hC:∀x,(C x).length=n):∀{l:List α} {i f:Nat} {x:α},l[i]?=some x→f<n→(l.flatMap C)[i* n+f]?=(C x)[f]?
 |[],i,f,x,h,_=>by simp at h
 | y :: l, 0, f, x, h, hf => by
   obtain rfl:y=x:=by simpa using h
   rw[XW,Nat.zero_mul,vr,X2 (by rw[hC];exact hf)]
 | y :: l, i + 1, f, x, h, hf => by
   rw[XW,X0 (by rw[hC,vE];omega),hC]
   rw[show(i+1)* n+f-n=i* n+f by rw[vE];omega]
   exact Ni hC (by simpa using h) hf
theorem Bx {α:Type} {C:α→List AV} {n:Nat} (hC:∀x,(C x).length=n):∀l:List α,(l.flatMap C).length=l.length* n
 |[]=>by simp
 |y::l=>by rw[XW,vI,hC,Bx hC l,XO,vE];omega
theorem Ht {α:Type} {C:α→List AV} {n:Nat} (hC:∀x,(C x).length=n):∀{l:List α} {i:Nat} {x:α},l[i]?=some x→((l.flatMap C).drop (i* n)).take n=C x
 |[],i,x,h=>by simp at h
 | y :: l, 0, x, h => by
   obtain rfl:y=x:=by simpa using h
   rw[XW,Nat.zero_mul,X9,List.take_append_of_le_length (by rw[hC];omega),vD (by rw[hC];omega)]
 | y :: l, i + 1, x, h => by
   rw[XW,List.drop_append,List.drop_of_length_le (by rw[hC,vE];omega),Yr,hC,show(i+1)* n-n=i* n by rw[vE];omega]
   exact Ht hC (by simpa using h)
def yC (n:Nat) (h:H) (v:AV) (k:Nat) (cs:List AV):Prop:=aS h n v=some (k,cs)∧cs.length=k* n∧∀s,v≠.str s
theorem Rd.Wf {h:H} {v:AV} {cs:List AV} (r:Rd h v cs):yC 1 h v cs.length cs:=⟨r.1,by omega,r.2⟩
theorem yC.len {n:Nat} {h:H} {v:AV} {k:Nat} {cs:List AV} (r:yC n h v k cs):jc false v=some (.int .i64 k):=by
 obtain⟨r,_,hs⟩:=r
 unfold aS at r
 split at r
 · obtain⟨h1,h2⟩:=u9 (u6 r);subst h1;rfl
 · exact absurd rfl (hs _)
 · split at r
   · simp only[u5]at r
     obtain⟨c,_,r⟩:=r
     split at r
     · obtain⟨h1,h2⟩:=u9 (u6 r);simp [jc,h1]
     · cases r
   · cases r
 · split at r
   · split at r
     · obtain⟨h1,h2⟩:=u9 (u6 r);simp [jc,h1]
     · cases r
   · cases r
 · cases r
theorem yC.mono {n:Nat} {h g:H} {v:AV} {k:Nat} {cs:List AV} (r:yC n h v k cs) (hg:∀id c,h.get id=some c→g.get id=some c):yC n g v k cs:=by
 obtain⟨r,hl,hs⟩:=r
 refine⟨?_,hl,hs⟩
 unfold aS at r ⊢
 split at r
 · exact r
 · exact r
 · split at r
   · rename_i q;simp only[if_pos q,u5]at r ⊢
     obtain⟨c,h1,r⟩:=r
     exact⟨c,hg _ _ h1,r⟩
   · cases r
 · exact r
 · cases r
theorem yC.at_ {n : Nat} {h : H} {v : AV} {k : Nat} {cs : List AV} (r : yC n h v k cs) : ∃ ad : Int → Nat → AV,
 (∀i:Int,0≤i∧i<k→fM n v (.int .i64 i)=some (ad i 0))∧
 (∀(i:Int) (f g:Nat),0≤i∧i<k→fh g (ad i f)=some (ad i (f+g)))∧
 (∀(i:Int) (f:Nat) (g:H),0≤i∧i<k→jz g (ad i f)=some (ad i f,g))∧
 (∀g:H,(∀id c,h.get id=some c→g.get id=some c)→(∀(i:Int) (f:Nat) (c:AV),0≤i∧i<k→cs[i.toNat* n+f]?=some c→bQ false 1 (ad i f) g=some c)∧
   ∀i:Int,0≤i∧i<k→bQ true n (ad i 0) g=some (.agg ((cs.drop (i.toNat* n)).take n))):=by
 obtain⟨r,hl,hs⟩:=r
 unfold aS at r
 split at r
 · obtain⟨h1,h2⟩:=u9 (u6 r);subst h1
   exact⟨fun _ _=>.bot,fun i hi=>by omega,fun i f g hi=>by omega,fun i f g hi=>by omega,fun g _=>⟨fun i f c hi=>by omega,fun i hi=>by omega⟩⟩
 · exact absurd rfl (hs _)
 · rename_i id off len s
   split at r
   · rename_i q
     subst q
     simp only[u5]at r
     obtain⟨d,hd,r⟩:=r
     split at r
     · rename_i hle
       obtain⟨h1,h2⟩:=u9 (u6 r)
       subst h1
       have bnd:∀i:Int,0≤i∧i<len→i.toNat* s+s≤len* s:=fun i hi=>by
        have:=vp s (show i.toNat+1≤len by omega);rw[vE]at this;omega
       refine⟨fun i f=>.aD id (off+i.toNat* s+f),fun i hi=>by simp [fM,Sm hi],fun i f g _=>by simp [fh];omega,fun i f g _=>rfl,fun g hg=>⟨fun i f c hi hc=> ?_,fun i hi=> ?_⟩⟩
       · simp only[bQ,hg _ _ hd,vi,gW,vj,vJ]
         rw[←h2,vH]at hc
         split at hc
         · rw[vz]at hc;rw[vk];exact hc
         · cases hc
       · have:=bnd i hi
         simp only[bQ,hg _ _ hd,vi,gW,if_true,Nat.add_zero]
         rw[if_pos (by omega),←h2,List.drop_take,List.take_take,List.drop_drop,Nat.min_eq_left (by omega)]
     · cases r
   · cases r
 · rename_i t cells off len s
   split at r
   · rename_i q
     subst q
     split at r
     · rename_i hle
       obtain⟨h1,h2⟩:=u9 (u6 r)
       subst h1
       have bnd:∀i:Int,0≤i∧i<len→i.toNat* s+s≤len* s:=fun i hi=>by
        have:=vp s (show i.toNat+1≤len by omega);rw[vE]at this;omega
       refine⟨fun i f=>.aK cells (off+i.toNat* s+f),fun i hi=>by simp [fM,Sm hi],fun i f g _=>by simp [fh];omega,fun i f g _=>rfl,fun g hg=>⟨fun i f c hi hc=> ?_,fun i hi=> ?_⟩⟩
       · simp only[bQ,gW,vj,vJ]
         rw[←h2,vH]at hc
         split at hc
         · rw[vz]at hc;rw[vk];exact hc
         · cases hc
       · have:=bnd i hi
         simp only[bQ,gW,if_true,Nat.add_zero]
         rw[if_pos (by omega),←h2,List.drop_take,List.take_take,List.drop_drop,Nat.min_eq_left (by omega)]
     · cases r
   · cases r
 · cases r
def wz (n:Nat) (h:H) (v:AV) (k:Nat) (cs:List AV):Prop:=cs.length=k* n∧((v=.aP∧k=0)∨∃id,v=.aE id 0 k n∧h.get id=some cs∧h.floor≤id∧0<k)
theorem wz.nil {n:Nat} {h:H}:wz n h .aP 0 []:=⟨by simp,.inl ⟨rfl,rfl⟩⟩
theorem wz.mono {n:Nat} {h g:H} {v:AV} {k:Nat} {cs:List AV} (o:wz n h v k cs) (hf:g.floor=h.floor) (hg:∀i,v.id?=some i→g.get i=h.get i):wz n g v k cs:=by
 obtain⟨l,o⟩:=o
 refine⟨l, ?_⟩
 rcases o with o|⟨id,rfl,h1,h2,h3⟩
 · exact .inl o
 · exact .inr ⟨id,rfl,by rw[hg id rfl];exact h1,by rw[hf];exact h2,h3⟩
theorem wz.sc {n:Nat} {h:H} {v:AV} {k:Nat} {cs:List AV} (o:wz n h v k cs):v.sc=true:=by
 rcases o.2 with ⟨rfl,_⟩|⟨id,rfl,_⟩<;>rfl
theorem wz.lt {n:Nat} {h:H} {v:AV} {k:Nat} {cs:List AV} (o:wz n h v k cs) {i:Nat} (hi:v.id?=some i):h.floor≤i∧i<h.next:=by
 rcases o.2 with ⟨rfl,_⟩|⟨id,rfl,h1,h2⟩
 · cases hi
 · obtain rfl:=u6 hi;exact⟨h2.1,h.lt _ _ h1⟩
theorem wz.rd {n:Nat} {h:H} {v:AV} {k:Nat} {cs:List AV} (o:wz n h v k cs):yC n h v k cs:=by
 obtain⟨l,o⟩:=o
 rcases o with ⟨rfl,rfl⟩|⟨id,rfl,h1,h2⟩
 · have:cs=[]:=Yg (by omega)
   subst this
   exact⟨rfl,by simp,fun _=>by simp⟩
 · refine⟨?_,l,fun _=>by simp⟩
   simp only[aS,if_true,h1,vi,vr]
   rw[if_pos (by omega),X9,vD (by omega)]
theorem wz.app {n:Nat} {h:H} {v:AV} {k:Nat} {cs:List AV} (o:wz n h v k cs) (hfn:h.floor≤h.next) {z m:Nat} (hm:0<m) (hn:0<n) (bs:List AV) (hb:bs.length=m* n) (hc:AV.aC bs=true) (hr:roomy z (k+m)=true):
 ∃v' h',dJ h n z v m bs=some (v',h')∧wz n h' v' (k+m) (cs++bs)∧h'.floor=h.floor∧h.next≤h'.next∧(∀i,v.id?≠some i→i≠h.next→h'.get i=h.get i)∧v'.id?=some h.next:=by
 obtain⟨hl,o⟩:=o
 have hll:(cs++bs).length=(k+m)* n:=by rw[vI,hl,hb,vE]
 rcases o with ⟨rfl,rfl⟩|⟨id,rfl,hg,hf,_⟩
 · have:cs=[]:=Yg (by omega)
   subst this
   refine⟨.aE h.next 0 m n,h.alloc bs, ?_,⟨hll,.inr ⟨h.next,by simp,by simp [H.aW],by simp;omega,by omega⟩⟩,by simp,by simp,fun i _ hi=>by rw[H.aW,if_neg hi],rfl⟩
   unfold dJ
   rw[if_neg (by omega),if_neg (by simp [hc];omega)]
   rw[vr]at hr
   simp only[hr,if_true]
 · have hmn:0<m* n:=Nat.mul_pos hm hn
   have hnot:¬0+(k+m)* n≤cs.length:=by rw[hl,vE];omega
   refine⟨.aE h.next 0 (k+m) n,(h.del id).alloc (cs++bs), ?_,⟨hll,.inr ⟨h.next,by simp,by simp [H.aW], ?_,by omega⟩⟩,by simp,by simp,fun i h1 h2=> ?_,rfl⟩
   · unfold dJ
     rw[if_neg (by omega),if_neg (by simp [hc];omega)]
     simp only[hf,and_self,if_true,hg,vi]
     rw[if_neg hnot,if_pos ⟨by omega,hr⟩]
     simp
   · have:=h.lt id cs hg;simp;omega
   · rw[H.aW,H.jx,if_neg h2,H.dQ,if_neg]
     intro e;subst e;exact h1 rfl
theorem wz.push {n:Nat} {h:H} {v:AV} {k:Nat} {cs:List AV} (o:wz n h v k cs) (hfn:h.floor≤h.next) {z m:Nat} (hm:0<m) (hn:0<n) (bs:List AV) (hb:bs.length=m* n) (hc:AV.aC bs=true) (hr:roomy z (k+m)=true):
 ∃v' h',kM (h.alloc bs) n z v (.aE h.next 0 m n)=some (v',h')∧wz n h' v' (k+m) (cs++bs)∧h'.floor=h.floor∧h.next+1≤h'.next∧(∀i,v.id?≠some i→i<h.next→h'.get i=h.get i)∧v'.id?=some (h.next+1):=by
 have o1:wz n (h.alloc bs) v k cs:=o.mono (by simp) fun i q=>by rw[H.aW,if_neg];have:=o.lt q;omega
 obtain⟨v',h',p1,p2,p3,p4,p5,p6⟩:=o1.app (z:=z) (by simp;omega) hm hn bs hb hc hr
 refine⟨v',h', ?_,p2,by rw[p3];simp,by simpa using p4,fun i q1 q2=> ?_,by simpa using p6⟩
 · have src:aS (h.alloc bs) n (.aE h.next 0 m n)=some (m,bs):=by
    simp only[aS,if_true,H.aW,vi,vr]
    rw[if_pos (by omega),X9,vD (by omega)]
   unfold kM;rw[src,vi];exact p1
 · rw[p5 i q1 (by simp;omega),H.aW,if_neg (by omega)]
def yJ (n k:Nat) (cs:List AV):AV:=if k=0 then .aP else .aV false cs 0 k n
theorem Fv {n k:Nat} {h:H} {cs:List AV} (hl:cs.length=k* n):yC n h (yJ n k cs) k cs:=by
 unfold yJ
 by_cases hk:k=0
 · subst hk
   have:cs=[]:=Yg (by omega)
   subst this
   exact⟨rfl,by simp,fun _=>by simp⟩
 · rw[if_neg hk]
   refine⟨?_,hl,fun _=>by simp⟩
   simp only[aS,if_true,vr]
   rw[if_pos (by omega),X9,vD (by omega)]
theorem wz.yi {n:Nat} {h:H} {v:AV} {k:Nat} {l:List Int} {fl m:Nat} {t:Bool} (o:wz n h v k (ints l)) (hf:fl≤h.floor):snap h.get fl (m+2) t v=some (yJ n k (ints l)):=by
 obtain⟨hl,o⟩:=o
 rw[pY]at hl
 rcases o with ⟨rfl,rfl⟩|⟨id,rfl,q,h2,hk⟩
 · rfl
 · unfold snap
   rw[if_neg (by omega),q,vi,if_pos (by rw[pY];omega)]
   rw[X9,vD (by rw[pY];omega),yA]
   unfold yJ
   rw[if_neg (by omega)];rfl
attribute [go_sem] List.map_cons List.map_nil Bool.and_true Bool.true_and Bool.and_self List.append_nil Option.map_some Option.map_none Bool.and_false Bool.false_and Bool.or_false Bool.or_true Bool.true_or Bool.false_or Bool.or_self bU.aO bU.aI Int.reduceAdd Int.reduceSub Int.reduceMul Int.reduceNeg Int.reduceToNat List.take_succ_cons List.take_zero List.drop_zero List.drop_succ_cons Int.cast_ofNat_Int Int.natCast_one Int.natCast_zero List.length_set
theorem vT:type_of% @dt∧type_of% @df∧type_of% @Wl∧type_of% @Wk∧type_of% @Wp∧type_of% @Wo∧type_of% @wi∧type_of% @wb∧type_of% @xD∧type_of% @BT∧type_of% @Og∧type_of% @KD∧type_of% @Sm∧type_of% @vZ∧type_of% @vW∧type_of% @v9∧type_of% @vN∧type_of% @H.jr∧type_of% @H.j5∧type_of% @H.lh∧type_of% @H.jy∧type_of% @Lq∧type_of% @KQ∧type_of% @Nf∧type_of% @Nd∧type_of% @KY∧type_of% @EE∧type_of% @F7∧type_of% @KM∧type_of% @MR∧type_of% @NR∧type_of% @NS∧type_of% @qe∧type_of% @pE∧type_of% @rS∧type_of% @qn∧type_of% @Nt∧type_of% @Ns∧type_of% @te∧type_of% @th∧type_of% @Ij∧type_of% @HB∧type_of% @Bi∧type_of% @Hk∧type_of% @JU∧type_of% @KJ∧type_of% @Pk∧type_of% @Nn∧type_of% @PF∧type_of% @PD∧type_of% @PB∧type_of% @PA∧type_of% @PC∧type_of% @Py∧type_of% @Em∧type_of% @Ic∧type_of% @Ih∧type_of% @Ie∧type_of% @F6∧type_of% @En∧type_of% @CL∧type_of% @Ig∧type_of% @AN∧type_of% @DI∧type_of% @NC∧type_of% @DA∧type_of% @DM∧type_of% @DL∧type_of% @Px∧type_of% @Pw∧type_of% @uo∧type_of% @beq_refl∧type_of% @yx∧type_of% @Pz∧type_of% @Pf∧type_of% @N5∧type_of% @N4∧type_of% @N3∧type_of% @FD∧type_of% @JE∧type_of% @Ef∧type_of% @G5:=⟨@dt, @df, @Wl, @Wk, @Wp, @Wo, @wi, @wb, @xD, @BT, @Og, @KD, @Sm, @vZ, @vW, @v9, @vN, @H.jr, @H.j5, @H.lh, @H.jy, @Lq, @KQ, @Nf, @Nd, @KY, @EE, @F7, @KM, @MR, @NR, @NS, @qe, @pE, @rS, @qn, @Nt, @Ns, @te, @th, @Ij, @HB, @Bi, @Hk, @JU, @KJ, @Pk, @Nn, @PF, @PD, @PB, @PA, @PC, @Py, @Em, @Ic, @Ih, @Ie, @F6, @En, @CL, @Ig, @AN, @DI, @NC, @DA, @DM, @DL, @Px, @Pw, @uo, @beq_refl, @yx, @Pz, @Pf, @N5, @N4, @N3, @FD, @JE, @Ef, @G5⟩
theorem Ba:type_of% @Dd∧type_of% @CX∧type_of% @CW∧type_of% @HC∧type_of% @Hs∧type_of% @Bu∧type_of% @Oo∧type_of% @NV∧type_of% @NU∧type_of% @N2∧type_of% @Pu∧type_of% @Ps∧type_of% @Pt∧type_of% @Pv∧type_of% @MO∧type_of% @Pe∧type_of% @Pb∧type_of% @Pd∧type_of% @Pc∧type_of% @xP∧type_of% @xR∧type_of% @xW∧type_of% @Oe∧type_of% @Od:=⟨@Dd, @CX, @CW, @HC, @Hs, @Bu, @Oo, @NV, @NU, @N2, @Pu, @Ps, @Pt, @Pv, @MO, @Pe, @Pb, @Pd, @Pc, @xP, @xR, @xW, @Oe, @Od⟩
theorem xk:type_of% @H.j5∧type_of% @H.jy∧type_of% @HC∧type_of% @Dd∧type_of% @H.jr∧type_of% @H.lh∧type_of% @Hs∧type_of% @CW:=⟨@H.j5, @H.jy, @HC, @Dd, @H.jr, @H.lh, @Hs, @CW⟩
theorem Bb:type_of% @vZ∧type_of% @vW∧type_of% @v9∧type_of% @vN∧type_of% @Bu∧type_of% @CX:=⟨@vZ, @vW, @v9, @vN, @Bu, @CX⟩
end Ab
set_option maxRecDepth 100000
namespace Ab
open Go
def QK (c:Nat):Nat:=if c%2=1 then(c/2)^^^3988292384 else c/2
def KT:Nat→Nat→Nat
 |0,c=>c
 |n+1,c=>KT n (QK c)
def OA (c b:Nat):Nat:=KT 8 (c^^^b)
def MX (s:ByteArray):Nat→Nat→Nat→Nat
 |0,_,c=>c
 |n+1,i,c=>MX s n (i+1) (OA c (zq s i))
def Vl (a:Nat) (s:ByteArray):Nat:=4294967295-MX s s.size 0 (4294967295-a)
def T3 (s:ByteArray):Nat:=Vl 0 s
theorem Dg {a s:Nat} (hs:s≤64):pF .shr .i64 (a:Int) (s:Int)=some (.int .i64 ((a/2^s:Nat):Int)):=by
 unfold pF
 rw[if_neg (by omega)]
 simp only[IntKind.bits,Yo,Nat.min_eq_left hs]
 rw[Int.fdiv_eq_ediv_of_nonneg _ (Int.pow_nonneg (by omega))]
 simp
theorem CK {h:H} {v:AV} {k:Nat} {l:List Nat} (o:wz 1 h v k (yM l)):uj h v (aS h 1 v)=some (.str (bytesOf l),h):=by
 rw[o.rd.1]
 simp only[uj,vi,Hm]
 rcases o.2 with ⟨rfl,_⟩|⟨id,rfl,_⟩<;>rfl
def yZ (s:ByteArray) (i j:Nat):Nat→Nat→Nat
 |0,k=>k
 |f+1,k=>if k<258∧i+k<s.size∧zq s (i+k)=zq s (j+k)then yZ s i j f (k+1)else k
theorem G2 (s : ByteArray) (i j : Nat) (hs : s.size < 100000) (hj : j ≤ i) (hi : i ≤ s.size) (h : H) : ∀ (f k : Nat), k + f = 258 →
 ∃e',Lp AP.A [0,1,2,7] AP.f26L0 [(0,.str s),(1,.int .i64 i),(2,.int .i64 j),(7,.int .i64 k)] h=some (.exit 0,e',h)∧look e' 7=.int .i64 (yZ s i j f k:Nat)
 | 0, k, hk => by
   refine⟨[(0,.str s),(1,.int .i64 i),(2,.int .i64 j),(7,.int .i64 k),(30,.bool false)],tM ?_,rfl⟩
   simp (disch:=omega)only[go_sem,vT,AP.f26L0]
 | f + 1, k, hk => by
   have n1:((k:Int)+1)=((k+1:Nat):Int):=by omega
   by_cases c1:i+k<s.size
   · by_cases c2:zq s (i+k)=zq s (j+k)
     · obtain⟨e',r1,r2⟩:=G2 s i j hs hj hi h f (k+1) (by omega)
       refine⟨e',tN ?_ r1, ?_⟩
       · rw[←n1]
         simp (disch:=omega)only[go_sem,vT,AP.f26L0]
       · rw[r2,yZ,if_pos ⟨by omega,c1,c2⟩]
     · refine⟨[(0,.str s),(1,.int .i64 i),(2,.int .i64 j),(7,.int .i64 k),(30,.bool false)],tM ?_, ?_⟩
       · simp (disch:=omega)only[go_sem,vT,AP.f26L0]
       · rw[yZ,if_neg (fun q=>c2 q.2.2)];rfl
   · refine⟨[(0,.str s),(1,.int .i64 i),(2,.int .i64 j),(7,.int .i64 k),(30,.bool false)],tM ?_, ?_⟩
     · simp (disch:=omega)only[go_sem,vT,AP.f26L0]
     · rw[yZ,if_neg (fun q=>c1 q.2.1)];rfl
def same (s:ByteArray) (i j:Nat):Nat:=yZ s i j 258 0
theorem R9 (h:H) (s:ByteArray) (i j:Nat) (hs:s.size<100000) (hj:j≤i) (hi:i≤s.size):aR AP.A 26 [.str s,.int .i64 i,.int .i64 j] h=some (.int .i64 (same s i j:Nat),h):=by
 obtain⟨e',r1,r2⟩:=G2 s i j hs hj hi h.dN 258 0 rfl
 have r1':Lp AP.A [0,1,2,7] AP.f26L0 [(0,.str s),(1,.int .i64 i),(2,.int .i64 j),(7,.int .i64 0)] h.dN=some (.exit 0,e',h.dN):=r1
 clear r1
 refine uz (fn:=AP.f26) (h2:=h.dN) (e:=[(6,.int .i64 (same s i j:Nat))]) rfl rfl rfl ?_ rfl rfl
 simp (disch:=omega)only[go_sem,vT,AP.f26,sG,r1',r2,same]
def wN (s:ByteArray) (i:Nat):Nat→Nat×Nat→Nat×Nat
 |0,b=>b
 |j+1,b=>wN s i j (if b.1<same s i j then(same s i j,i-j)else b)
theorem JC (s:ByteArray) (i j:Nat):∀f k,yZ s i j f k≤k+f
 |0,k=>by simp [yZ]
 | f + 1, k => by
   unfold yZ
   split
   · have:=JC s i j f (k+1);omega
   · omega
theorem HS (s:ByteArray) (i j:Nat):same s i j≤258:=by have:=JC s i j 258 0;unfold same;omega
theorem Fy (s:ByteArray) (i j:Nat) (hi:i≤s.size):∀f k,i+k≤s.size→i+yZ s i j f k≤s.size
 |0,k,h=>by simpa [yZ]using h
 | f + 1, k, h => by
   unfold yZ
   split
   · rename_i q;exact Fy s i j hi f (k+1) (by omega)
   · exact h
theorem G3 (s:ByteArray) (i j:Nat) (hi:i≤s.size):i+same s i j≤s.size:=Fy s i j hi 258 0 (by omega)
theorem Cc (s:ByteArray) (i:Nat) (hi:i≤s.size):∀(j:Nat) (b:Nat×Nat),i+b.1≤s.size→i+(wN s i j b).1≤s.size
 |0,b,h=>h
 | j + 1, b, h => by
   unfold wN
   refine Cc s i hi j _ ?_
   split
   · exact G3 s i j hi
   · exact h
theorem Dn (s:ByteArray) (i:Nat) (hs:s.size<100000) (hi:i<s.size) (v4:AV) (h:H):∀(n:Nat) (b:Nat×Nat) (j:Int),n≤i→j=(n:Int)-1→
 ∃ e', Lp AP.A [0, 4, 5, 6, 7, 8] AP.f12L0 [(0, .str s), (4, v4), (5, .int .i64 i), (6, .int .i64 b.1), (7, .int .i64 b.2), (8, .int .i64 j)] h = some (.exit 2, e', h) ∧
   look e' 0=.str s∧look e' 4=v4∧look e' 5=.int .i64 i∧look e' 6=.int .i64 (wN s i n b).1∧look e' 7=.int .i64 (wN s i n b).2
 | 0, b, j, hn, hj => by
   refine⟨[(0,.str s),(4,v4),(5,.int .i64 i),(6,.int .i64 b.1),(7,.int .i64 b.2),(8,.int .i64 j),(20,.bool false)],tM ?_,rfl,rfl,rfl,rfl,rfl⟩
   simp (disch:=omega)only[go_sem,vT,AP.f12L0]
 | n + 1, b, j, hn, hj => by
   obtain rfl:j=(n:Int):=by omega
   have k1:=R9 h s i n hs (by omega) (by omega)
   have k2:=HS s i n
   have n1:(i:Int)-(n:Int)=((i-n:Nat):Int):=by omega
   by_cases c:b.1<same s i n
   · obtain⟨e',r1,r2,r3,r4,r5,r6⟩:=Dn s i hs hi v4 h n (same s i n,i-n) ((n:Int)-1) (by omega) rfl
     refine⟨e',tN ?_ r1,r2,r3,r4, ?_, ?_⟩
     · simp (disch:=omega)only[go_sem,vT,AP.f12L0,k1,n1]
     · rw[r5,wN,if_pos c]
     · rw[r6,wN,if_pos c]
   · obtain⟨e',r1,r2,r3,r4,r5,r6⟩:=Dn s i hs hi v4 h n b ((n:Int)-1) (by omega) rfl
     refine⟨e',tN ?_ r1,r2,r3,r4, ?_, ?_⟩
     · simp (disch:=omega)only[go_sem,vT,AP.f12L0,k1,n1]
     · rw[r5,wN,if_neg c]
     · rw[r6,wN,if_neg c]
structure Tok where
 lit:Int
 len:Int
 wB:Int
deriving DecidableEq
def MD (t:Tok):List Int:=[t.lit,t.len,t.wB]
def FN (t:Tok):List AV:=ints (MD t)
def PG (ts:List Tok):List Int:=ts.flatMap MD
def wJ (ts:List Tok):List AV:=ts.flatMap FN
theorem FO (t:Tok):(FN t).length=3:=rfl
theorem Ha (ts:List Tok):(wJ ts).length=ts.length* 3:=Bx FO ts
theorem Ag:∀ts:List Tok,wJ ts=ints (PG ts)
 |[]=>rfl
 | t :: ts => by
   have:=Ag ts
   unfold wJ PG at *
   rw[XW,XW,pX,this];rfl
theorem FP (ts:List Tok) (t:Tok):wJ (ts++[t])=wJ ts++FN t:=by simp [wJ]
def xQ (s:ByteArray) (i:Nat):Tok×Nat:=
 if(wN s i i (0,0)).1<3 then(⟨zq s i,0,0⟩,i+1)else(⟨0,(wN s i i (0,0)).1,(wN s i i (0,0)).2⟩,i+(wN s i i (0,0)).1)
def Ao (s:ByteArray):Nat→Nat→List Tok
 |0,_=>[]
 |f+1,i=>if i<s.size then(xQ s i).1::Ao s f (xQ s i).2 else []
theorem FM (s:ByteArray) (i:Nat):i<(xQ s i).2:=by
 unfold xQ;split<;>simp<;>omega
theorem FK (s:ByteArray) (i:Nat) (hi:i<s.size):(xQ s i).2≤s.size:=by
 unfold xQ;split
 · exact hi
 · exact Cc s i (by omega) i (0,0) (by show i+0≤_;omega)
theorem JN (s:ByteArray) (i:Nat) (hi:s.size≤i) (h:H) (ov:AV):∃e',Lp AP.A [0,4,5] AP.f12L1 [(0,.str s),(4,ov),(5,.int .i64 i)] h=some (.exit 0,e',h)∧look e' 4=ov:=by
 refine⟨[(0,.str s),(4,ov),(5,.int .i64 i),(16,.bool false)],tM ?_,rfl⟩
 simp (disch:=omega)only[go_sem,vT,AP.f12L1]
theorem Oh (s : ByteArray) (hs : s.size < 100000) : ∀ (f i : Nat) (h : H) (ov : AV) (ts : List Tok), s.size - i ≤ f → i ≤ s.size → ts.length ≤ i → wz 3 h ov ts.length (wJ ts) → h.floor ≤ h.next →
 ∃e' h' ov',Lp AP.A [0,4,5] AP.f12L1 [(0,.str s),(4,ov),(5,.int .i64 i)] h=some (.exit 0,e',h')∧look e' 4=ov'∧wz 3 h' ov' (ts++Ao s f i).length (wJ (ts++Ao s f i))∧h'.floor=h.floor∧h.next≤h'.next:=by
 intro f
 induction f with
 | zero =>
   intro i h ov ts hf hi hts o hfn
   obtain⟨e',r1,r2⟩:=JN s i (by omega) h ov
   exact⟨e',h,ov,r1,r2,by simpa [Ao]using o,rfl,vm _⟩
 | succ f ih =>
   intro i h ov ts hf hi hts o hfn
   by_cases c0:i<s.size
   · obtain⟨e1,q1,q2,q3,q4,q5,q6⟩:=Dn s i hs c0 ov h i (0,0) ((i:Int)-1) (by omega) rfl
     have q1':Lp AP.A [0,4,5,6,7,8] AP.f12L0 [(0,.str s),(4,ov),(5,.int .i64 i),(6,.int .i64 0),(7,.int .i64 0),(8,.int .i64 ((i:Int)-1))] h=some (.exit 2,e1,h):=q1
     clear q1
     have hb:=Dp s i
     have hr:=Cc s i (by omega) i (0,0) (by show i+0≤_;omega)
     have lt:=FM s i
     have le:=FK s i c0
     obtain⟨t,i',et⟩:∃t i',xQ s i=(t,i'):=⟨_,_,rfl⟩
     have et0:=et
     rw[et]at lt le
     simp only at lt le
     obtain⟨v',h',p1,p2,p3,p4,p5,p6⟩:=o.push hfn (z:=24) (m:=1) (by omega) (by omega) (FN t) rfl rfl (by simp [roomy];omega)
     have step:aL (aR AP.A) bq AP.f12L1 (ay [(0,.str s),(4,ov),(5,.int .i64 i)] [0,4,5]) h=some (.normal,[(0,.str s),(4,v'),(5,.int .i64 i')],h'):=by
      unfold xQ at et
      by_cases c1:(wN s i i (0,0)).1<3
      · rw[if_pos c1]at et
        obtain⟨rfl,rfl⟩:=u9 et
        simp only[FN,MD,ints,XX,Yk,I]at p1
        have n1:((i+1:Nat):Int)=(i:Int)+1:=by omega
        simp (disch:=omega)only[go_sem,vT,AP.f12L1,sG,q1',q2,q3,q4,q5,q6,p1,n1]
      · rw[if_neg c1]at et
        obtain⟨rfl,rfl⟩:=u9 et
        simp only[FN,MD,ints,XX,Yk,I]at p1
        have n1:((i+(wN s i i (0,0)).1:Nat):Int)=(i:Int)+((wN s i i (0,0)).1:Nat):=by omega
        simp (disch:=omega)only[go_sem,vT,AP.f12L1,sG,q1',q2,q3,q4,q5,q6,p1,n1]
     have o2:wz 3 h' v' (ts++[t]).length (wJ (ts++[t])):=by rw[FP,vI];exact p2
     obtain⟨e',h2,ov',r1,r2,r3,r4,r5⟩:=ih i' h' v' (ts++[t]) (by omega) le (by simp;omega) o2 (by omega)
     refine⟨e',h2,ov',tN step r1,r2, ?_,by omega,by omega⟩
     rw[Ao,if_pos c0,et0]
     simpa using r3
   · obtain⟨e',r1,r2⟩:=JN s i (by omega) h ov
     exact⟨e',h,ov,r1,r2,by simpa [Ao,c0]using o,rfl,vm _⟩
def Aw (ts:List Tok):AV:=yJ 3 ts.length (wJ ts)
def tokens (s:ByteArray):List Tok:=Ao s s.size 0
theorem JO (h:H) (s:ByteArray) (hs:s.size<1125899906842624):aR AP.A 12 [.str s] h=some (if 300<s.size then .bM [.aP,.int .i64 500]else .bM [Aw (tokens s),.int .i64 0],h):=by
 by_cases c:300<s.size
 · rw[if_pos c]
   refine uz (fn:=AP.f12) (h2:=h.dN) (e:=[(2,.aP),(3,.int .i64 500)]) rfl rfl rfl ?_ rfl rfl
   simp (disch:=omega)only[go_sem,vT,AP.f12]
 · rw[if_neg c]
   obtain⟨e',h',ov',r1,r2,r3,r4,r5⟩:=Oh s (by omega) s.size 0 h.dN .aP [] (by omega) (by omega) (by simp) wz.nil (by simp)
   have r1':Lp AP.A [0,4,5] AP.f12L1 [(0,.str s),(4,.aP),(5,.int .i64 0)] h.dN=some (.exit 0,e',h'):=r1
   clear r1
   rw[Yr]at r3
   refine uz (fn:=AP.f12) (h2:=h') (e:=[(2,ov'),(3,.int .i64 0)]) (vs:=[ov',.int .i64 0]) rfl rfl rfl ?_ rfl ?_
   · simp (disch:=omega)only[go_sem,vT,AP.f12,sG,r1',r2]
   · have o':=r3
     rw[Ag]at o'
     have s1:=o'.yi (fl:=h.next) (m:=13) (t:=true) (by rw[r4];simp)
     show(fD (snap h'.get h.next 15 true) [ov',.int .i64 0]).bind _=_
     simp only[fD,s1,vi]
     rw[←Ag];rfl
def Ext (h g:H):Prop:=∀id c,h.get id=some c→g.get id=some c
theorem Ext.refl (h:H):Ext h h:=fun _ _ q=>q
theorem Ext.trans {a b c:H} (x:Ext a b) (y:Ext b c):Ext a c:=fun i d q=>y i d (x i d q)
theorem Ext.alloc {a h:H} (x:Ext a h) (cs:List AV):Ext a (h.alloc cs):=fun i d q=>by
 have:=h.lt _ _ (x i d q)
 rw[H.aW,if_neg (by omega)];exact x i d q
theorem Ext.set {a h:H} (x:Ext a h) {id:Nat} (hid:a.next≤id) (cs:List AV):Ext a (h.set id cs):=fun i d q=>by
 have:=a.lt _ _ q
 rw[H.dp,if_neg (by omega)];exact x i d q
theorem yC.HZ {h:H} {v:AV} {ts:List Tok} (r:yC 3 h v ts.length (wJ ts)):∃ad:Int→Nat→AV,
 (∀i:Int,0≤i∧i<ts.length→fM 3 v (.int .i64 i)=some (ad i 0))∧
 (∀(i:Int) (f g:Nat),0≤i∧i<ts.length→fh g (ad i f)=some (ad i (f+g)))∧
 ∀ g : H, Ext h g → ∀ (i : Nat) (t : Tok), ts[i]? = some t → bQ false 1 (ad i 0) g = some (.int .i64 t.lit) ∧ bQ false 1 (ad i 1) g = some (.int .i64 t.len) ∧ bQ false 1 (ad i 2) g = some (.int .i64 t.wB) ∧
   bQ true 3 (ad i 0) g=some (.agg [.int .i64 t.lit,.int .i64 t.len,.int .i64 t.wB]):=by
 obtain⟨ad,a1,a2,_,a3⟩:=r.at_
 refine⟨ad,a1,a2,fun g hg i t ht=> ?_⟩
 obtain⟨b1,b2⟩:=a3 g hg
 have hi:i<ts.length:=(vh.1 ht).1
 have hI:(0:Int)≤(i:Int)∧(i:Int)<ts.length:=⟨by omega,by omega⟩
 have ti:((i:Int)).toNat=i:=by omega
 have q:∀f,f<3→(wJ ts)[((i:Int)).toNat* 3+f]?=(FN t)[f]?:=fun f hf=>by rw[ti];exact Ni FO ht hf
 refine⟨b1 i 0 _ hI (q 0 (by omega)),b1 i 1 _ hI (q 1 (by omega)),b1 i 2 _ hI (q 2 (by omega)), ?_⟩
 rw[b2 i hI,ti,wJ,Ht FO ht];rfl
def wS (size:Int) (t:Tok):Option Int:=
 if t.len=0 then(if t.lit<0∨255<t.lit∨t.wB≠0 then none else some (size+1))
 else if t.len<3∨258<t.len∨t.wB<1∨32768<t.wB∨size<t.wB∨t.lit≠0 then none else some (size+t.len)
def wo : Int → List Tok → Bool
 |_,[]=>true
 | s, t :: r => match wS s t with
   |none=>false
   |some s'=>if 8192<s' then false else wo s' r
theorem Of {v a0:AV} {n i:Nat} {s:Int} {t:Tok} {h h1:H} (hi:i<n) (hfl:h.floor≤h.next) (ln:jc false v=some (.int .i64 n)) (b1:fM 3 v (.int .i64 i)=some a0) (b2:bQ true 3 a0 h=some (.agg [.int .i64 t.lit,.int .i64 t.len,.int .i64 t.wB]))
 (eh1:h1=(h.alloc [.int .i64 0,.int .i64 0,.int .i64 0]).set h.next [.int .i64 t.lit,.int .i64 t.len,.int .i64 t.wB]) (g1:h1.get h.next=some [.int .i64 t.lit,.int .i64 t.len,.int .i64 t.wB]) (hb:wS s t=none):
 aL (aR AP.A) bq AP.f69L0 (ay [(0,v),(3,.int .i64 s),(4,.int .i64 i)] [0,3,4]) h=some (.ret,[(2,.bool false)],h1):=by
 unfold wS at hb
 by_cases c0:t.len=0
 · rw[if_pos c0]at hb
   have hb':t.lit<0∨255<t.lit∨t.wB≠0:=by
    by_cases c:t.lit<0∨255<t.lit∨t.wB≠0
    · exact c
    · rw[if_neg c]at hb;cases hb
   by_cases d1:t.lit<0
   · clear hb' hb;simp (disch:=omega)only[go_sem,vT,AP.f69L0,ln,b1,b2,←eh1,g1]
   by_cases d2:255<t.lit
   · clear hb' hb;simp (disch:=omega)only[go_sem,vT,AP.f69L0,ln,b1,b2,←eh1,g1]
   have d3:¬t.wB=0:=by omega
   clear hb' hb
   simp (disch:=omega)only[go_sem,vT,AP.f69L0,ln,b1,b2,←eh1,g1]
 · rw[if_neg c0]at hb
   have hb':t.len<3∨258<t.len∨t.wB<1∨32768<t.wB∨s<t.wB∨t.lit≠0:=by
    by_cases c:t.len<3∨258<t.len∨t.wB<1∨32768<t.wB∨s<t.wB∨t.lit≠0
    · exact c
    · rw[if_neg c]at hb;cases hb
   by_cases d1:t.len<3
   · clear hb' hb;simp (disch:=omega)only[go_sem,vT,AP.f69L0,ln,b1,b2,←eh1,g1]
   by_cases d2:258<t.len
   · clear hb' hb;simp (disch:=omega)only[go_sem,vT,AP.f69L0,ln,b1,b2,←eh1,g1]
   by_cases d3:t.wB<1
   · clear hb' hb;simp (disch:=omega)only[go_sem,vT,AP.f69L0,ln,b1,b2,←eh1,g1]
   by_cases d4:32768<t.wB
   · clear hb' hb;simp (disch:=omega)only[go_sem,vT,AP.f69L0,ln,b1,b2,←eh1,g1]
   by_cases d5:s<t.wB
   · clear hb' hb;simp (disch:=omega)only[go_sem,vT,AP.f69L0,ln,b1,b2,←eh1,g1]
   have d6:¬t.lit=0:=by omega
   clear hb' hb
   simp (disch:=omega)only[go_sem,vT,AP.f69L0,ln,b1,b2,←eh1,g1]
theorem MC {v a0:AV} {n i:Nat} {s s':Int} {t:Tok} {h h1:H} (hi:i<n) (hn:n<1000000000) (hs:0≤s∧s≤8192) (hfl:h.floor≤h.next) (ln:jc false v=some (.int .i64 n)) (b1:fM 3 v (.int .i64 i)=some a0) (b2:bQ true 3 a0 h=some (.agg [.int .i64 t.lit,.int .i64 t.len,.int .i64 t.wB]))
 (eh1:h1=(h.alloc [.int .i64 0,.int .i64 0,.int .i64 0]).set h.next [.int .i64 t.lit,.int .i64 t.len,.int .i64 t.wB]) (g1:h1.get h.next=some [.int .i64 t.lit,.int .i64 t.len,.int .i64 t.wB]) (hst:wS s t=some s'):
 aL (aR AP.A) bq AP.f69L0 (ay [(0,v),(3,.int .i64 s),(4,.int .i64 i)] [0,3,4]) h=if 8192<s' then some (.ret,[(2,.bool false)],h1)else some (.normal,[(0,v),(3,.int .i64 s'),(4,.int .i64 ((i:Int)+1))],h1):=by
 unfold wS at hst
 by_cases c0:t.len=0
 · rw[if_pos c0]at hst
   by_cases c:t.lit<0∨255<t.lit∨t.wB≠0
   · rw[if_pos c]at hst;cases hst
   rw[if_neg c]at hst
   obtain rfl:=u6 hst
   have k1:¬t.lit<0:=by omega
   have k2:¬255<t.lit:=by omega
   have k3:t.wB=0:=by omega
   clear c
   by_cases k:8192<s+1
   · rw[if_pos k]
     simp (disch:=omega)only[go_sem,vT,AP.f69L0,ln,b1,b2,←eh1,g1]
   · rw[if_neg k]
     simp (disch:=omega)only[go_sem,vT,AP.f69L0,ln,b1,b2,←eh1,g1]
 · rw[if_neg c0]at hst
   by_cases c:t.len<3∨258<t.len∨t.wB<1∨32768<t.wB∨s<t.wB∨t.lit≠0
   · rw[if_pos c]at hst;cases hst
   rw[if_neg c]at hst
   obtain rfl:=u6 hst
   have k1:¬t.len<3:=by omega
   have k2:¬258<t.len:=by omega
   have k3:¬t.wB<1:=by omega
   have k4:¬32768<t.wB:=by omega
   have k5:¬s<t.wB:=by omega
   have k6:t.lit=0:=by omega
   clear c
   by_cases k:8192<s+t.len
   · rw[if_pos k]
     simp (disch:=omega)only[go_sem,vT,AP.f69L0,ln,b1,b2,←eh1,g1]
   · rw[if_neg k]
     simp (disch:=omega)only[go_sem,vT,AP.f69L0,ln,b1,b2,←eh1,g1]
theorem G8 {v : AV} {ts : List Tok} (hn : ts.length < 1000000000) (h0 : H) (rd : yC 3 h0 v ts.length (wJ ts)) : ∀ (q p : List Tok) (s : Int) (h : H), ts = p ++ q → 0 ≤ s ∧ s ≤ 8192 → Ext h0 h → h0.next ≤ h.next → h.floor ≤ h.next →
 (∃e' h',Lp AP.A [0,3,4] AP.f69L0 [(0,v),(3,.int .i64 s),(4,.int .i64 p.length)] h=some (.exit 0,e',h')∧wo s q=true)∨
 (∃e' h',Lp AP.A [0,3,4] AP.f69L0 [(0,v),(3,.int .i64 s),(4,.int .i64 p.length)] h=some (.ret,e',h')∧look e' 2=.bool false∧wo s q=false)
 | [], p, s, h, hp, hs, hx, hnx, hfl => by
   left
   have ln:=rd.len
   rw[XZ]at hp;subst hp
   refine⟨[(0,v),(3,.int .i64 s),(4,.int .i64 ts.length),(9,.bool false)],h,tM ?_,rfl⟩
   simp (disch:=omega)only[go_sem,vT,AP.f69L0,ln]
 | t :: q, p, s, h, hp, hs, hx, hnx, hfl => by
   have ln:=rd.len
   have hlen:ts.length=p.length+(q.length+1):=by rw[hp];simp
   have ht:ts[p.length]?=some t:=by rw[hp];simp
   obtain⟨ad,a1,a2,a3⟩:=rd.HZ
   have hI:(0:Int)≤(p.length:Int)∧(p.length:Int)<ts.length:=⟨by omega,by omega⟩
   have b1:=a1 _ hI
   obtain⟨_,_,_,b2⟩:=a3 h hx _ _ ht
   obtain⟨h1,eh1⟩:∃g,g=(h.alloc [.int .i64 0,.int .i64 0,.int .i64 0]).set h.next [.int .i64 t.lit,.int .i64 t.len,.int .i64 t.wB]:=⟨_,rfl⟩
   have w1:((p.length:Int)+1)=(((p++[t]).length:Nat):Int):=by simp
   have b2':=b2
   have gA:(h.alloc [.int .i64 0,.int .i64 0,.int .i64 0]).get h.next=some [.int .i64 0,.int .i64 0,.int .i64 0]:=vZ rfl
   have ldA:bQ true 3 (ad p.length 0) (h.alloc [.int .i64 0,.int .i64 0,.int .i64 0])=some (.agg [.int .i64 t.lit,.int .i64 t.len,.int .i64 t.wB]):=(a3 _ (hx.alloc _) _ _ ht).2.2.2
   have g1:h1.get h.next=some [.int .i64 t.lit,.int .i64 t.len,.int .i64 t.wB]:=by rw[eh1,v9 rfl,gA];rfl
   have hx1:Ext h0 h1:=by rw[eh1];exact(hx.alloc _).set hnx _
   have hn1:h0.next≤h1.next:=by rw[eh1];simp;omega
   have hf1:h1.floor≤h1.next:=by rw[eh1];simp;omega
   cases hst:wS s t with
   | none =>
     right
     exact⟨_,h1,uh (Of (by omega) hfl ln b1 b2 eh1 g1 hst),rfl,by simp [wo,hst]⟩
   | some s' =>
     have good:=MC (by omega) hn hs hfl ln b1 b2 eh1 g1 hst
     have hs':0≤s':=by
      unfold wS at hst
      clear good
      by_cases c0:t.len=0
      · rw[if_pos c0]at hst
        split at hst
        · cases hst
        · obtain rfl:=u6 hst;omega
      · rw[if_neg c0]at hst
        split at hst
        · cases hst
        · obtain rfl:=u6 hst;omega
     by_cases k:8192<s'
     · right
       rw[if_pos k]at good
       exact⟨_,h1,uh good,rfl,by simp [wo,hst,k]⟩
     · rw[if_neg k]at good
       have e:wo s (t::q)=wo s' q:=by simp [wo,hst,k]
       rw[e]
       rw[w1]at good
       rcases G8 hn h0 rd q (p++[t]) s' h1 (by rw[hp];simp) ⟨hs',by omega⟩ hx1 hn1 hf1 with ⟨e',h',r1,r2⟩|⟨e',h',r1,r2,r3⟩
       · exact .inl ⟨e',h',tN good r1,r2⟩
       · exact .inr ⟨e',h',tN good r1,r2,r3⟩
theorem Rd.xi {h:H} {v:AV} {l:List Int} (r:Rd h v (ints l)):∃ad:Int→AV,(∀i:Int,0≤i∧i<l.length→fM 1 v (.int .i64 i)=some (ad i))∧
 ∀g:H,Ext h g→∀(i:Nat) (n:Int),l[i]?=some n→bQ false 1 (ad i) g=some (.int .i64 n):=by
 have r2:=r.Wf
 rw[pY]at r2
 obtain⟨ad,a1,_,_,a3⟩:=r2.at_
 refine⟨fun i=>ad i 0,a1,fun g hg i n hn=> ?_⟩
 have hi:i<l.length:=(vh.1 hn).1
 refine(a3 g hg).1 i 0 _ ⟨by omega,by omega⟩ ?_
 rw[KD,Yy,Nat.add_zero]
 exact tu hn
structure Sj where
 name:ByteArray
 gone:Bool
 vec:List Int
 N6:Int
 node:Int
 method:Int
 packed:ByteArray
 size:Int
 W8:Int
structure PE (h:H) (p:AV) (cs:List AV):Prop where
 nil:∀g:H,jz g p=some (p,g)
 tS:∃q:Nat→AV,(∀k,fh k p=some (q k))∧∀g:H,Ext h g→∀(k:Nat) (c:AV),cs[k]?=some c→bQ false 1 (q k) g=some c
abbrev Sk:=Sj×AV
structure Vx (h:H) (x:Sk):Prop where
 vec:Rd h x.2 (ints x.1.vec)
 vl:x.1.vec.length<1125899906842624
 nl:x.1.name.size<1125899906842624
 pl:x.1.packed.size<1125899906842624
theorem Vx.mono {h g:H} {x:Sk} (o:Vx h x) (e:Ext h g):Vx g x:=⟨o.vec.mono fun i c q=>e i c q,o.vl,o.nl,o.pl⟩
def yB (method : Int) (s : ByteArray) (size : Int) : Option ByteArray :=
 if size<0∨300<size then none
 else if method=0 then(if(s.size:Int)=size then some s else none)
 else if method=8 then(match wT s size with
  | .ok (o,took)=>if(o.length:Int)=size∧took=s.size then some (bytesOf o)else none
  | .error _=>none)
 else none
def O8:Option ByteArray→AV
 |some t=>.bM [.str t,.int .i64 0]
 |none=>.bM [.str ⟨#[]⟩,.int .i64 900]
theorem Dk (h : H) (hf : h.floor ≤ h.next) (m : Int) (s : ByteArray) (z : Int) (hs : s.size < 1125899906842624) : aR AP.A 114 [.int .i64 m, .str s, .int .i64 z] h = some (O8 (yB m s z), h) := by
 unfold yB
 by_cases c1:z<0
 · rw[if_pos (.inl c1)]
   refine uz (fn:=AP.f114) (h2:=h.dN) (e:=[(6,.str ⟨#[]⟩),(7,.int .i64 900)]) rfl rfl rfl ?_ rfl rfl
   simp (disch:=omega)only[go_sem,vT,AP.f114]
 by_cases c2:300<z
 · rw[if_pos (.inr c2)]
   refine uz (fn:=AP.f114) (h2:=h.dN) (e:=[(6,.str ⟨#[]⟩),(7,.int .i64 900)]) rfl rfl rfl ?_ rfl rfl
   simp (disch:=omega)only[go_sem,vT,AP.f114]
 rw[if_neg (by omega)]
 by_cases c3:m=0
 · rw[if_pos c3]
   by_cases c4:(s.size:Int)=z
   · rw[if_pos c4]
     refine uz (fn:=AP.f114) (h2:=h.dN) (e:=[(6,.str s),(7,.int .i64 0)]) rfl rfl rfl ?_ rfl rfl
     simp (disch:=omega)only[go_sem,vT,AP.f114]
   · rw[if_neg c4]
     refine uz (fn:=AP.f114) (h2:=h.dN) (e:=[(6,.str ⟨#[]⟩),(7,.int .i64 900)]) rfl rfl rfl ?_ rfl rfl
     simp (disch:=omega)only[go_sem,vT,AP.f114]
 rw[if_neg c3]
 by_cases c5:m=8
 · rw [if_pos c5]
   have k1:=Md h.dN (by simp) s z hs
   simp only[I]at k1
   cases hi:wT s z with
   | error k =>
     rw[hi]at k1
     simp only[Mc,I]at k1
     have hk:=C6 hi
     have hk':¬k=0:=by rcases hk with rfl|rfl<;>decide
     clear hk
     refine uz (fn:=AP.f114) (h2:=h.dN) (e:=[(6,.str ⟨#[]⟩),(7,.int .i64 900)]) rfl rfl rfl ?_ rfl rfl
     simp (disch:=omega)only[go_sem,vT,AP.f114,k1]
   | ok r =>
     obtain⟨o,took⟩:=r
     rw[hi]at k1
     simp only[Mc,I]at k1
     dsimp only
     have sz:=xf o
     by_cases c6:(o.length:Int)=z
     · by_cases c7:took=s.size
       · rw[if_pos ⟨c6,c7⟩]
         refine uz (fn:=AP.f114) (h2:=h.dN) (e:=[(6,.str (bytesOf o)),(7,.int .i64 0)]) rfl rfl rfl ?_ rfl rfl
         simp (disch:=omega)only[go_sem,vT,AP.f114,k1,sz]
       · rw[if_neg (fun q=>c7 q.2)]
         refine uz (fn:=AP.f114) (h2:=h.dN) (e:=[(6,.str ⟨#[]⟩),(7,.int .i64 900)]) rfl rfl rfl ?_ rfl rfl
         simp (disch:=omega)only[go_sem,vT,AP.f114,k1,sz]
     · rw[if_neg (fun q=>c6 q.1)]
       refine uz (fn:=AP.f114) (h2:=h.dN) (e:=[(6,.str ⟨#[]⟩),(7,.int .i64 900)]) rfl rfl rfl ?_ rfl rfl
       simp (disch:=omega)only[go_sem,vT,AP.f114,k1,sz]
 · rw[if_neg c5]
   refine uz (fn:=AP.f114) (h2:=h.dN) (e:=[(6,.str ⟨#[]⟩),(7,.int .i64 900)]) rfl rfl rfl ?_ rfl rfl
   simp (disch:=omega)only[go_sem,vT,AP.f114]
theorem MF (h : H) (m : Int) (s : ByteArray) (z : Int) (hs : s.size < 1125899906842624) : aR AP.A 164 [.int .i64 m, .str s, .int .i64 z] h = some (O8 (yB m s z), h) := by
 unfold yB
 by_cases c1:z<0
 · rw[if_pos (.inl c1)]
   refine uz (fn:=AP.f164) (h2:=h.dN) (e:=[(6,.str ⟨#[]⟩),(7,.int .i64 900)]) rfl rfl rfl ?_ rfl rfl
   simp (disch:=omega)only[go_sem,vT,AP.f164]
 by_cases c2:300<z
 · rw[if_pos (.inr c2)]
   refine uz (fn:=AP.f164) (h2:=h.dN) (e:=[(6,.str ⟨#[]⟩),(7,.int .i64 900)]) rfl rfl rfl ?_ rfl rfl
   simp (disch:=omega)only[go_sem,vT,AP.f164]
 rw[if_neg (by omega)]
 by_cases c3:m=0
 · rw[if_pos c3]
   by_cases c4:(s.size:Int)=z
   · rw[if_pos c4]
     refine uz (fn:=AP.f164) (h2:=h.dN) (e:=[(6,.str s),(7,.int .i64 0)]) rfl rfl rfl ?_ rfl rfl
     simp (disch:=omega)only[go_sem,vT,AP.f164]
   · rw[if_neg c4]
     refine uz (fn:=AP.f164) (h2:=h.dN) (e:=[(6,.str ⟨#[]⟩),(7,.int .i64 900)]) rfl rfl rfl ?_ rfl rfl
     simp (disch:=omega)only[go_sem,vT,AP.f164]
 rw[if_neg c3]
 by_cases c5:m=8
 · rw [if_pos c5]
   have k1:=J9 h.dN s z hs
   simp only[I]at k1
   cases hi:wT s z with
   | error k =>
     rw[hi]at k1
     simp only[Mc,I]at k1
     have hk:=C6 hi
     have hk':¬k=0:=by rcases hk with rfl|rfl<;>decide
     clear hk
     refine uz (fn:=AP.f164) (h2:=h.dN) (e:=[(6,.str ⟨#[]⟩),(7,.int .i64 900)]) rfl rfl rfl ?_ rfl rfl
     simp (disch:=omega)only[go_sem,vT,AP.f164,k1]
   | ok r =>
     obtain⟨o,took⟩:=r
     rw[hi]at k1
     simp only[Mc,I]at k1
     dsimp only
     have sz:=xf o
     by_cases c6:(o.length:Int)=z
     · by_cases c7:took=s.size
       · rw[if_pos ⟨c6,c7⟩]
         refine uz (fn:=AP.f164) (h2:=h.dN) (e:=[(6,.str (bytesOf o)),(7,.int .i64 0)]) rfl rfl rfl ?_ rfl rfl
         simp (disch:=omega)only[go_sem,vT,AP.f164,k1,sz]
       · rw[if_neg (fun q=>c7 q.2)]
         refine uz (fn:=AP.f164) (h2:=h.dN) (e:=[(6,.str ⟨#[]⟩),(7,.int .i64 900)]) rfl rfl rfl ?_ rfl rfl
         simp (disch:=omega)only[go_sem,vT,AP.f164,k1,sz]
     · rw[if_neg (fun q=>c6 q.1)]
       refine uz (fn:=AP.f164) (h2:=h.dN) (e:=[(6,.str ⟨#[]⟩),(7,.int .i64 900)]) rfl rfl rfl ?_ rfl rfl
       simp (disch:=omega)only[go_sem,vT,AP.f164,k1,sz]
 · rw[if_neg c5]
   refine uz (fn:=AP.f164) (h2:=h.dN) (e:=[(6,.str ⟨#[]⟩),(7,.int .i64 900)]) rfl rfl rfl ?_ rfl rfl
   simp (disch:=omega)only[go_sem,vT,AP.f164]
theorem HG (c:ah) (e:Env) (h:H) (x y:X):ai c e h (.mx [x,y])=dc h (mE (x.ev e) (y.ev e)):=by
 simp only[ai,aX,XX,Yk,fZ]
 cases mE (x.ev e) (y.ev e)<;>rfl
def DG (a b:Int):Int:=if a<b then b else a
theorem El (k:IntKind) (a b:Int):mE (.int k a) (.int k b)=some (.int k (DG a b)):=rfl
theorem Rd.Wd {h:H} {v:AV} {cs:List AV} (r:Rd h v cs) (hc:cs≠[]):fC 1 v .aP=some false:=by
 obtain⟨r,hs⟩:=r
 unfold aS at r
 split at r
 · obtain⟨_,h2⟩:=u9 (u6 r);exact absurd h2.symm hc
 · exact absurd rfl (hs _)
 · rfl
 · rfl
 · cases r
theorem F5 {n:Nat} {h:H} {v:AV} {k:Nat} {cs:List AV} (r:yC n h v k cs) (hfn:h.floor≤h.next) (hn:0<n) (hk:0<k) {z:Nat} (hr:roomy z k=true) (hc:AV.aC cs=true):
 kM (h.alloc []) n z (.aE h.next 0 0 n) v=some (.aE (h.next+1) 0 k n,((h.alloc []).del h.next).alloc cs):=by
 have r2:yC n (h.alloc []) v k cs:=r.mono fun i c q=>by rw[H.aW,if_neg (by have:=h.lt _ _ q;omega)];exact q
 unfold kM
 rw[r2.1,vi]
 have hkn:0<k* n:=Nat.mul_pos hk hn
 unfold dJ
 rw[if_neg (by omega),if_neg (by simp [hc];omega)]
 simp only[H.jr,hfn,and_self,if_true]
 rw[vZ rfl,vi,if_neg (by simp;omega),if_pos ⟨by simp,by simpa using hr⟩]
 simp
theorem E9:∀l:List Int,AV.aC (ints l)=true
 |[]=>rfl
 | n :: l => by
   have:=E9 l
   show AV.aC (I n::ints l)=true
   rw[qn,this];rfl
theorem Oz (h:H) (v:AV) (l:List Int) (rd:Rd h v (ints l)) (hl:0<l.length) (hb:l.length<1000000) (hfn:h.floor≤h.next):aR AP.A 118 [v] h=some (.aE (h.next+1) 0 l.length 1,((h.alloc []).del h.next).alloc (ints l)):=by
 have r2:=rd.Wf
 rw[pY]at r2
 have ap:=F5 r2 hfn (by omega) hl (z:=8) (by simp [roomy];omega) (E9 l)
 have nn:=rd.Wd (fun q=>by
  have q2:(ints l).length=0:=by rw[q];rfl
  rw[pY]at q2
  omega)
 refine tZ (fn:=AP.f118) (h2:=((h.alloc []).del h.next).alloc (ints l)) (e:=[(2,.aE (h.next+1) 0 l.length 1)]) (vs:=[.aE (h.next+1) 0 l.length 1]) rfl rfl rfl ?_ rfl
 clear rd r2
 simp (disch:=omega)only[go_sem,vT,AP.f118,nn,ap]
def N0 (name:ByteArray) (node:Nat) (N6:Int) (text:ByteArray):Sj:=⟨name,false,[0,0,0,0].set node N6,N6,node,0,text,text.size,T3 text⟩
def nA:ByteArray:=⟨#[97]⟩
def Wq:ByteArray:=⟨#[104,105]⟩
def Xk:ByteArray:=⟨#[104,111]⟩
def eA:Sj:=N0 nA 0 1 Wq
def eB:Sj:=N0 nA 2 1 Xk
def eD:Sj:={eA with W8:=(T3 Wq^^^1:Nat)}
def Ki:Ty:=.int .i64
def MA:Ty:=.str
theorem NW {B:Nat} {avs:List AV} (h:Sh B Ki avs):∃n,avs=[.int .i64 n]∧(-9223372036854775808≤n∧n<9223372036854775808):=by
 cases h with
 |int h=>exact⟨_,rfl,tW h⟩
theorem NX {avs:List AV} (h:Sh reachBytes .str avs):∃s:ByteArray,avs=[.str s]∧s.size<140737488355328:=by
 cases h with
 |str h=>exact⟨_,rfl,uE h⟩
theorem Wg {P:Ty×List AV→Prop} {a b c d:Ty} {r:List (Ty×List AV)} (h:r.map (·.1)=[a,b,c,d]) (hp:∀x∈r,P x):∃x y z w,r=[(a,x),(b,y),(c,z),(d,w)]∧P (a,x)∧P (b,y)∧P (c,z)∧P (d,w):=by
 match r,h with
 |[(a',x),(b',y),(c',z),(d',w)],h=>simp at h;obtain⟨rfl,rfl,rfl,rfl⟩:=h;exact⟨x,y,z,w,rfl,hp _ (by simp),hp _ (by simp),hp _ (by simp),hp _ (by simp)⟩
def Se (s:ByteArray):List Nat:=s.data.toList.map (·.toNat)
theorem Lw (s:ByteArray):(Se s).length=s.size:=by unfold Se;rw[Yu,Array.length_toList];rfl
theorem Sf (s:ByteArray):∀b∈Se s,b<256:=by
 intro b hb
 obtain⟨x,_,rfl⟩:=X1.1 hb
 exact x.toNat_lt
theorem DV (s:ByteArray):bytesOf (Se s)=s:=by
 unfold Se bytesOf;rw[List.map_map];apply ByteArray.ext;simp [Function.comp_def]
theorem LM (x:Int) (k:Nat) (hk:k≤62):bits .and .i64 x ((2^k-1:Nat):Int)=x%((2^k:Nat):Int):=by
 have h2:2^k≤2^62:=XY (by omega) hk
 have h3:0<2^k:=Nat.pow_pos (by omega)
 show IntKind.wrap .i64 (((BitVec.ofInt 64 x&&&BitVec.ofInt 64 ((2^k-1:Nat):Int)).toNat:Nat):Int)=_
 rw[BitVec.toNat_and,ze 64 (2^k-1) (by omega),BitVec.toNat_ofInt,Nat.and_two_pow_sub_one_eq_mod,vL (by
  have:=Nat.mod_lt (x%((2^64:Nat):Int)).toNat h3
  omega)]
 have e:(((x%((2^64:Nat):Int)).toNat:Nat):Int)=x%((2^64:Nat):Int):=Int.toNat_of_nonneg (Int.emod_nonneg _ (by decide))
 rw[Int.natCast_emod,e]
 refine Int.emod_emod_of_dvd x ?_
 refine Int.natCast_dvd_natCast.2 (Nat.pow_dvd_pow 2 (by omega))
theorem Vw {n:Nat} (h:n<256):IntKind.wrap .u8 (n:Int)=n:=wb (by omega)
theorem MB {a n:Nat} (hn:0<n):bj .rem (.int .i64 ((a:Nat):Int)) (.int .i64 (n:Int))=some (.int .i64 ((a%n:Nat):Int)):=by
 show(if(n:Int)=0 then none else some (AV.int .i64 ((a:Int).tmod n)))=_
 rw[if_neg (by omega),Int.tmod_eq_emod_of_nonneg (by omega)];rfl
theorem Cy:∀(l cs:List AV) (off:Nat),off+l.length≤cs.length→setFrom cs off l=cs.take off++(l++cs.drop (off+l.length))
 |[],cs,off,h=>by simp [setFrom]
 | v :: l, cs, off, h => by
   rw[XO]at h
   rw[setFrom,Cy l (cs.set off v) (off+1) (by rw[X6];omega)]
   rw[List.take_set,List.drop_set_of_lt (by omega),XO,show off+1+l.length=off+(l.length+1)by omega]
   rw[List.take_succ_eq_append_getElem (by omega),Yn _ _ (by simp;omega)]
   simp [show min off cs.length=off by omega]
def wD (bs:List Nat):List Nat:=yk bs 0 []
theorem Ct:∀(a b:List Nat) (i:Nat) (out:List Nat),yk (a++b) i out=yk b (i+a.length) (yk a i out)
 |[],b,i,out=>rfl
 | x :: a, b, i, out => by
   show yk (a++b) (i+1) (wZ out i x)=_
   rw[Ct a b]
   show yk b (i+1+a.length) _=yk b (i+(a.length+1)) _
   rw[show i+1+a.length=i+(a.length+1)by omega];rfl
theorem DJ (bs:List Nat) (b:Nat):wD (bs++[b])=wZ (wD bs) bs.length b:=by
 unfold wD;rw[Ct,vr];rfl
theorem yT (bs:List Nat):(wD bs).length=(bs.length+7)/8:=by
 have:∀(l:List Nat) (i:Nat) (out:List Nat),out.length=(i+7)/8→(yk l i out).length=(i+l.length+7)/8:=by
  intro l
  induction l with
  |nil=>intro i out h;exact h
  |cons x l ih=>intro i out h;rw[yk,ih (i+1) _ (by rw[Ea h]),XO];congr 1;omega
 have:=this bs 0 [] rfl
 rw[wD,this,vr]
structure Wr (h:H) (w:Nat) (bs:List Nat) (ov:AV):Prop where
 get:h.get w=some [ov,.int .i64 (bs.length:Nat)]
 own:wz 1 h ov (wD bs).length (yM (wD bs))
 fl:h.floor≤w
 H5:h.floor≤h.next
 ne:ov.id?≠some w
 FW:JR (wD bs)
structure Ej (h:H) (w:Nat) (ov:AV) (h':H) (ov':AV):Prop where
 floor:h'.floor=h.floor
 next:h.next≤h'.next
 wV:∀i,i<h.next→i≠w→ov.id?≠some i→h'.get i=h.get i
 ids:∀j,ov'.id?=some j→ov.id?=some j∨h.next≤j
theorem Ej.refl (h:H) (w:Nat) (ov:AV):Ej h w ov h ov:=⟨rfl,vm _,fun _ _ _ _=>rfl,fun _ h=>.inl h⟩
theorem Ej.trans {h1 h2 h3:H} {w:Nat} {o1 o2 o3:AV} (a:Ej h1 w o1 h2 o2) (b:Ej h2 w o2 h3 o3):Ej h1 w o1 h3 o3:=
 ⟨by rw [b.floor, a.floor], vG a.next b.next, fun i h hw ho => by
   rw[b.wV i (by have:=a.next;omega) hw (fun q=>by rcases a.ids i q with q|q;exact ho q;omega),a.wV i h hw ho],
  fun j h=>by
   rcases b.ids j h with q|q
   · exact a.ids j q
   · exact .inr (vG a.next q)⟩
theorem Ll {b k:Nat} (hb:b≤1) (hk:k<8):pF .shl .i64 (b:Int) ((k:Nat):Int)=some (.int .i64 ((b* 2^k:Nat):Int)):=by
 unfold pF
 rw[if_neg (by omega)]
 simp only[IntKind.bits,Yo,show min k 64=k by omega]
 have h1:2^k≤2^7:=XY (by omega) (by omega)
 have h2:b* 2^k≤1* 2^7:=Yx hb h1
 have:(b:Int)* 2^k=((b* 2^k:Nat):Int):=by rw[Int.natCast_mul,Int.natCast_pow];rfl
 rw[this,wi (by omega)]
theorem Oy {l:List Nat} {i x:Nat} (h:l[i]?=some x):(yM l)[i]?=some (.int .u8 (x:Int)):=by simp [yM,h]
theorem Ss (l:List Nat) (i x:Nat):(yM l).set i (.int .u8 (x:Int))=yM (l.set i x):=by simp [yM,List.map_set]
theorem MU (l:List Nat):(yM l).length=l.length:=by simp [yM]
theorem NB {g:H} {w id n b:Nat} {P:List Nat} {x:Nat} (hb:b≤1) (hw:g.get w=some [.aE id 0 (n/8+1) 1,.int .i64 n]) (hi:g.get id=some (yM P)) (hl:P.length=n/8+1) (hx:P[n/8]?=some x) (hx8:x<256) (hne:id≠w) (hf:g.floor≤w) (hf2:g.floor≤id) (hn:n<1000000):
 ∃e',aL (aR AP.A) bq (Lv 1 AP.f57.body) [(0,.aD w 0),(1,.int .i64 b)] g=some (.normal,e',(g.set id (yM (P.set (n/8) (x|||b* 2^(n%8))))).set w [.aE id 0 (n/8+1) 1,.int .i64 ((n:Int)+1)]):=by
 have c8:b* 2^(n%8)<256:=by
  have h1:2^(n%8)≤2^7:=XY (by omega) (by omega)
  have h2:b* 2^(n%8)≤1* 2^7:=Yx hb h1
  omega
 have s1:=Ll hb (show n%8<8 by omega)
 have o1:=Ik hx8 c8
 have w1:=Vw (n:=b* 2^(n%8)) c8
 have rm:=MB (a:=n) (n:=8) (by omega)
 have rm':bj .rem (.int .i64 (n:Int)) (.int .i64 8)=some (.int .i64 ((n%8:Nat):Int)):=rm
 have w2:IntKind.wrap .i64 (((n/8+1:Nat):Int)-1)=((n/8:Nat):Int):=by rw[wi (by omega)];omega
 have bl:=MU P
 have gx:=Oy hx
 have st:=Ss P (n/8) (x|||b* 2^(n%8))
 have sgn:((n/8:Nat):Int).toNat=n/8:=by omega
 have gw2:(g.set id (yM (P.set (n/8) (x|||b* 2^(n%8))))).get w=some [.aE id 0 (n/8+1) 1,.int .i64 n]:=by rw[vN (fun q=>hne q.symm),hw]
 generalize yM P=BP at *
 generalize b* 2^(n%8)=Y at *
 generalize (x|||Y)=Z at *
 generalize yM (P.set (n/8) Z)=BZ at *
 refine⟨?_, ?_⟩
 rotate_left
 simp (disch:=first|omega|(simp only[xk,XO,XR,vr,Nat.reduceAdd];first|done|omega|fail)|(simp (disch:=first|omega|(simp only[xk,XO,XR,vr,Nat.reduceAdd];first|done|omega|fail)|fail)only[xk,Bb,XU,XO,XR,vr,Nat.reduceAdd];done)|fail)only[go_sem,vT,Ba,AP.f57,hw,hi,s1,o1,w1,rm',w2,bl,hl,gx,st,sgn,gw2]
 rfl
theorem Bl (P:List Nat) (x:Nat):yM (P++[x])=yM P++[.int .u8 (x:Int)]:=by simp [yM]
theorem NA {h : H} {w b : Nat} {bs : List Nat} {ov : AV} (wr : Wr h w bs ov) (hb : b ≤ 1) (hn : bs.length < 1000000) :
 ∃h' ov',aR AP.A 57 [.aD w 0,.int .i64 b] h=some (.bM [],h')∧Wr h' w (bs++[b]) ov'∧Ej h w ov h' ov':=by
 obtain⟨gw,ow,fl,H5,ne,FW⟩:=wr
 obtain⟨n,en⟩:∃n,n=bs.length:=⟨_,rfl⟩
 rw[←en]at gw hn
 have pl:=yT bs
 rw[←en]at pl
 have pa:=DJ bs b
 rw[←en]at pa
 obtain⟨P,eP⟩:∃P,P=wD bs:=⟨_,rfl⟩
 rw[←eP]at ow FW pa pl
 have wlt:=h.lt _ _ gw
 obtain ⟨g, ov', id, P', x, s1, hw, hi, hl, hx, hid, hne, hf, hf2, hflx, hP, hk, hx8, hids, hbt⟩ : ∃ g ov' id P' x, aL (aR AP.A) bq (at_ 0 AP.f57.body) [(0, .aD w 0), (1, .int .i64 b)] h = some (.normal, [(0, .aD w 0), (1, .int .i64 b)], g) ∧ g.get w = some [.aE id 0 (n / 8 + 1) 1, .int .i64 n] ∧ g.get id = some (yM P') ∧ P'.length = n / 8 + 1 ∧ P'[n / 8]? = some x ∧ ov' = AV.aE id 0 (n / 8 + 1) 1 ∧ id ≠ w ∧ g.floor = h.floor ∧ h.floor ≤ id ∧ h.next ≤ g.next ∧ wZ P n b = P'.set (n / 8) (x ||| b * 2 ^ (n % 8)) ∧ (∀ i, i < h.next → i ≠ w → ov.id? ≠ some i → g.get i = h.get i) ∧ x < 256 ∧ (ov.id? = some id ∨ h.next ≤ id) ∧ JR P' := by
  have rm:bj .rem (.int .i64 (n:Int)) (.int .i64 8)=some (.int .i64 ((n%8:Nat):Int)):=MB (a:=n) (n:=8) (by omega)
  by_cases c:n%8=0
  · have cz:((n%8:Nat):Int)=0:=by omega
    obtain⟨v',h',p1,p2,p3,p4,p5,p6⟩:=ow.push H5 (z:=1) (m:=1) (by omega) (by omega) [.int .u8 0] rfl rfl (xP (by omega))
    have gw1:h'.get w=some [ov,.int .i64 n]:=by rw[p5 w ne wlt,gw]
    have e1:=p2.1
    rcases p2.2 with ⟨_,q⟩|⟨id,q1,q2,q3,q4⟩
    · omega
    · have hk:P.length+1=n/8+1:=by omega
      rw[hk]at q1
      have qid:id=h.next+1:=by rw[q1]at p6;exact u6 p6
      refine⟨h'.set w [v',.int .i64 n],v',id,P++[0],0, ?_, ?_, ?_, ?_, ?_,q1,by omega,by simp [p3],by omega, ?_, ?_, ?_,by omega,.inr (by omega), ?_⟩
      · rw[q1]
        rw[q1]at p1
        have fl':h'.floor≤w:=by omega
        simp (disch:=omega)only[go_sem,vT,AP.f57,xR,gw,gw1,rm,cz,p1,fl',v9,vN]
      · rw[v9 rfl,gw1,q1];rfl
      · rw[vN (by omega),q2,Bl];rfl
      · simp;omega
      · rw[X0 (by omega),show n/8-P.length=0 by omega];rfl
      · simp;omega
      · unfold wZ;rw[if_pos c];dsimp only;rw[XN,X0 (by omega),show n/8-P.length=0 by omega];rfl
      · intro i hi hiw hio
        rw[vN hiw,p5 i hio hi]
      · intro y hy
        rcases Ya.1 hy with q|q
        · exact FW y q
        · simp at q;omega
  · have cz:¬((n%8:Nat):Int)=0:=by omega
    rcases ow.2 with ⟨_,q⟩|⟨id,q1,q2,q3,q4⟩
    · omega
    · have hk:P.length=n/8+1:=by omega
      rw[hk]at q1
      obtain⟨x,hx⟩:∃x,P[n/8]?=some x:=⟨_,XQ (by omega)⟩
      have hneq:id≠w:=fun q=>ne (by rw[q1,q];rfl)
      refine⟨h,ov,id,P,x, ?_,by rw[gw,q1],q2,hk,hx,q1,hneq,rfl,q3,vm _, ?_,fun _ _ _ _=>rfl,FW x (vq hx),.inl (by rw[q1];rfl),FW⟩
      · simp (disch:=first|omega|(simp only[xk,XO,XR,vr,Nat.reduceAdd];first|done|omega|fail)|(simp (disch:=first|omega|(simp only[xk,XO,XR,vr,Nat.reduceAdd];first|done|omega|fail)|fail)only[xk,Bb,XU,XO,XR,vr,Nat.reduceAdd];done)|fail)only[go_sem,vT,Ba,AP.f57,gw,rm,cz]
      · unfold wZ;rw[if_neg c];dsimp only;rw[XN,hx];rfl
 obtain⟨e',s2⟩:=NB hb hw hi hl hx hx8 hne (by omega) (by omega) hn
 have cs:aR AP.A 57 [.aD w 0,.int .i64 b] h=some (.bM [],(g.set id (yM (P'.set (n/8) (x|||b* 2^(n%8))))).set w [.aE id 0 (n/8+1) 1,.int .i64 ((n:Int)+1)]):=by
  refine wF (fn:=AP.f57) (e:=e') (vs:=[]) rfl rfl rfl ?_ rfl
  have hb:AP.f57.body=.seq (at_ 0 AP.f57.body) (Lv 1 AP.f57.body):=rfl
  rw[hb,se]
  have s1':aL (aR AP.A) bq (at_ 0 AP.f57.body) (params 0 [.aD w 0,.int .i64 b]) h=some (.normal,[(0,.aD w 0),(1,.int .i64 b)],g):=s1
  rw[s1',sZ,s2]
 rw[←hP]at cs
 have ol:(wZ P n b).length=n/8+1:=by rw[hP,X6,hl]
 refine⟨_,ov',cs,⟨?_, ?_, ?_, ?_, ?_, ?_⟩, ?_, ?_, ?_, ?_⟩
 · rw[v9 rfl,vN hne.symm,hw,hid,vI,←en];rfl
 · rw[pa,hid]
   exact⟨by simp [yM,ol],.inr ⟨id,by rw[ol],by rw[vN hne,v9 rfl,hi];rfl,by simpa [hf]using hf2,by omega⟩⟩
 · simpa [hf]using fl
 · simp;omega
 · rw[hid];exact fun q=>hne (u6 q)
 · rw[pa];exact BG hb FW
 · simp [hf]
 · simpa using hflx
 · intro i hi1 hi2 hi3
   have:i≠id:=by
    rcases hids with q|q
    · intro q2;exact hi3 (by rw[q,q2])
    · omega
   rw[vN hi2,vN this,hk i hi1 hi2 hi3]
 · intro j hj
   rw[hid]at hj
   obtain rfl:=u6 hj
   exact hids
def Cx (v:Nat):Nat→Nat→List Nat
 |_,0=>[]
 |i,m+1=>v/2^i%2::Cx v (i+1) m
def wc (v n:Nat):List Nat:=Cx v 0 n
def yQ (v:Nat):Nat→List Nat
 |0=>[]
 |m+1=>v/2^m%2::yQ v m
theorem wm (v:Nat):∀m i,(Cx v i m).length=m
 |0,_=>rfl
 |m+1,i=>by simp [Cx,wm v m]
theorem xc (v:Nat):∀m,(yQ v m).length=m
 |0=>rfl
 |m+1=>by simp [yQ,xc v m]
theorem CJ {n:Nat} (h:n<1000000000):bits .and .i64 (n:Int) 1=((n%2:Nat):Int):=by
 have:=LM (n:Int) 1 (by omega)
 exact this.trans (by omega)
theorem Hf (w v n:Nat) (hv:v<65536) (hn:n≤16):∀(m i:Nat) (h:H) (bs:List Nat) (ov:AV),i+m=n→Wr h w bs ov→bs.length+m<1000000→
 ∃e' h' ov',Lp AP.A [0,1,2,7] AP.f33L0 [(0,.aD w 0),(1,.int .i64 v),(2,.int .i64 n),(7,.int .i64 i)] h=some (.exit 0,e',h')∧Wr h' w (bs++Cx v i m) ov'∧Ej h w ov h' ov'
 | 0, i, h, bs, ov, hi, wr, hb => by
   obtain rfl:i=n:=by omega
   refine⟨[(0,.aD w 0),(1,.int .i64 v),(2,.int .i64 i),(7,.int .i64 i),(35,.bool false)],h,ov,tM ?_,by simpa [Cx]using wr,Ej.refl h w ov⟩
   simp (disch:=omega)only[go_sem,vT,AP.f33L0]
 | m + 1, i, h, bs, ov, hi, wr, hb => by
   have q:=Nat.div_le_self v (2^i)
   obtain⟨h1,o1,k1,wr1,f1⟩:=NA wr (b:=v/2^i%2) (by omega) (by omega)
   obtain⟨e',h',ov',r1,r2,r3⟩:=Hf w v n hv hn m (i+1) h1 _ o1 (by omega) wr1 (by simp;omega)
   have n1:((i+1:Nat):Int)=(i:Int)+1:=by omega
   have s1:=Dg (a:=v) (s:=i) (by omega)
   have a1:=CJ (n:=v/2^i) (by omega)
   rw[XV]at r2
   refine⟨e',h',ov',tN ?_ r1,r2,f1.trans r3⟩
   rw[n1]
   simp (disch:=omega)only[go_sem,vT,AP.f33L0,s1,a1,k1]
theorem Aj {h:H} {w:Nat} {bs:List Nat} {ov:AV} (wr:Wr h w bs ov) (v n:Nat) (hn:n≤16) (hv:v<2^n) (hb:bs.length+n≤65536):
 ∃h' ov',aR AP.A 33 [.aD w 0,.int .i64 v,.int .i64 n] h=some (.int .i64 0,h')∧Wr h' w (bs++wc v n) ov'∧Ej h w ov h' ov':=by
 have hp:2^n≤2^16:=XY (by omega) hn
 obtain⟨e',h',ov',r1,r2,r3⟩:=Hf w v n (by omega) hn n 0 h bs ov (by omega) wr (by omega)
 have r1':Lp AP.A [0,1,2,7] AP.f33L0 [(0,.aD w 0),(1,.int .i64 v),(2,.int .i64 n),(7,.int .i64 0)] h=some (.exit 0,e',h'):=r1
 clear r1
 have gw:=wr.get
 have s1:pF .shl .i64 1 (n:Int)=some (.int .i64 ((2^n:Nat):Int)):=by
  have:=ym (a:=1) (s:=n) (by omega) (by omega)
  rwa [Nat.one_mul]at this
 refine⟨h',ov',tZ (fn:=AP.f33) (e:=[(6,.int .i64 0)]) (vs:=[.int .i64 0]) rfl rfl rfl ?_ rfl,r2,r3⟩
 generalize 2^n=N at *
 simp (disch:=omega)only[go_sem,vT,AP.f33,sG,r1',gw,s1]
theorem FT (w v:Nat) (A:List AV) (hA:A[1]?=some (.int .i64 v)) (hA2:A.length=2) (c:Nat) (hv:v<65536):∀(m:Nat) (h:H) (bs:List Nat) (ov:AV),m≤15→Wr h w bs ov→bs.length+m<1000000→h.get c=some A→c≠w→ov.id?≠some c→
 ∃e' h' ov',Lp AP.A [0,3,5] AP.f35L0 [(0,.aD w 0),(3,.aD c 0),(5,.int .i64 ((m:Int)-1))] h=some (.exit 0,e',h')∧Wr h' w (bs++yQ v m) ov'∧Ej h w ov h' ov'
 | 0, h, bs, ov, hm, wr, hb, hc, hcw, hco => by
   refine⟨[(0,.aD w 0),(3,.aD c 0),(5,.int .i64 (-1)),(41,.bool false)],h,ov,tM ?_,by simpa [yQ]using wr,Ej.refl h w ov⟩
   simp (disch:=omega)only[go_sem,vT,AP.f35L0]
 | m + 1, h, bs, ov, hm, wr, hb, hc, hcw, hco => by
   have q:=Nat.div_le_self v (2^m)
   obtain⟨h1,o1,k1,wr1,f1⟩:=NA wr (b:=v/2^m%2) (by omega) (by omega)
   have hcl:=h.lt _ _ hc
   obtain⟨e',h',ov',r1,r2,r3⟩:=FT w v A hA hA2 c hv m h1 _ o1 (by omega) wr1 (by simp;omega) (by rw[f1.wV c hcl hcw hco,hc]) hcw (fun q=>by rcases f1.ids c q with q|q;exact hco q;omega)
   have n1:((m+1:Nat):Int)-1=(m:Int):=by omega
   have s1:=Dg (a:=v) (s:=m) (by omega)
   have a1:=CJ (n:=v/2^m) (by omega)
   rw[XV]at r2
   refine⟨e',h',ov',tN ?_ r1,r2,f1.trans r3⟩
   rw[n1]
   simp (disch:=omega)only[go_sem,vT,AP.f35L0,s1,a1,k1,hc,hA,hA2]
theorem Dl {h:H} {w:Nat} {bs:List Nat} {ov:AV} (wr:Wr h w bs ov) (v n:Nat) (hn0:1≤n) (hn:n≤15) (hv:v<2^n) (hb:bs.length+n≤65536):
 ∃h' ov',aR AP.A 35 [.aD w 0,.agg [.int .i64 n,.int .i64 v]] h=some (.int .i64 0,h')∧Wr h' w (bs++yQ v n) ov'∧Ej h w ov h' ov':=by
 have hp:2^n≤2^15:=XY (by omega) hn
 obtain⟨g,eg⟩:∃g,g=h.alloc [.int .i64 n,.int .i64 v]:=⟨_,rfl⟩
 have hw:=h.lt _ _ wr.get
 have frA:∀i,i<h.next→g.get i=h.get i:=fun i hi=>by rw[eg,vW (by omega)]
 have wr1:Wr g w bs ov:=⟨by rw[frA w hw,wr.get],wr.own.mono (by rw[eg];simp) (fun i q=>frA i (wr.own.lt q).2),by rw[eg];simpa using wr.fl,by rw[eg];have:=wr.H5;simp;omega,wr.ne,wr.FW⟩
 have gc:g.get h.next=some [.int .i64 n,.int .i64 v]:=by rw[eg,vZ rfl]
 obtain⟨e',h',ov',r1,r2,r3⟩:=FT w v _ rfl rfl h.next (by omega) n g bs ov hn wr1 (by omega) gc (by omega) (fun q=>by have:=(wr.own.lt q).2;omega)
 have gw:=wr1.get
 have s1:pF .shl .i64 1 (n:Int)=some (.int .i64 ((2^n:Nat):Int)):=by
  have:=ym (a:=1) (s:=n) (by omega) (by omega)
  rwa [Nat.one_mul]at this
 refine⟨h',ov',tZ (fn:=AP.f35) (e:=[(4,.int .i64 0)]) (vs:=[.int .i64 0]) rfl rfl rfl ?_ rfl,r2,⟨by rw[r3.floor,eg];simp,by have:=r3.next;rw[eg]at this;simp at this;omega,fun i h1 h2 h3=>by rw[r3.wV i (by rw[eg];simp;omega) h2 h3,frA i h1],fun j hj=>by
  rcases r3.ids j hj with q|q
  · exact .inl q
  · rw[eg]at q;simp at q;exact .inr (by omega)⟩⟩
 generalize 2^n=N at *
 simp (disch:=omega)only[go_sem,vT,AP.f35,sG,←eg,r1,gw,gc,s1]
theorem H2 {h:H} {w:Nat} {bs:List Nat} {ov:AV} (wr:Wr h w bs ov):aR AP.A 37 [.aD w 0] h=some (.str (bytesOf (wD bs)),h):=by
 have gw:=wr.get
 have b:=CK wr.own
 refine tZ (fn:=AP.f37) (e:=[(2,.str (bytesOf (wD bs)))]) (vs:=[.str (bytesOf (wD bs))]) rfl rfl rfl ?_ rfl
 simp (disch:=omega)only[go_sem,vT,AP.f37,gw,b]
def wk (o:Option (Nat×Nat)):Nat:=(o.getD (0,0)).1
def xq (o:Option (Nat×Nat)):Nat:=(o.getD (0,0)).2
def zr (f:Nat→Option (Nat×Nat)) (k:Nat):Nat→Nat
 |0=>0
 |s+1=>if wk (f (s+1))≤k then s+1 else zr f k s
def xF (k:Nat):Nat:=zr lenOf k 285
def za (k:Nat):Nat:=xq (lenOf (xF k))
def zC (k:Nat):Nat:=k-wk (lenOf (xF k))
def xN (k:Nat):Nat:=zr wu k 29
def zg (k:Nat):Nat:=xq (wu (xN k))
def zH (k:Nat):Nat:=k-wk (wu (xN k))
theorem A9 {s:Nat} (h1:257≤s) (h2:s≤285):∃a b,lenOf s=some (a,b):=by
 unfold lenOf;rw[if_neg (by omega)];split;exact⟨_,_,rfl⟩;split<;>exact⟨_,_,rfl⟩
theorem Ar {s:Nat} (h2:s≤29):∃a b,wu s=some (a,b):=by
 unfold wu;rw[if_neg (by omega)];split<;>exact⟨_,_,rfl⟩
theorem K7:∀s,257≤s→s<285→wk (lenOf (s+1))≤wk (lenOf s)+2^xq (lenOf s):=by
 intro s h1 h2
 have:∀s<285,257≤s→wk (lenOf (s+1))≤wk (lenOf s)+2^xq (lenOf s):=by decide+kernel
 exact this s h2 h1
theorem IC:∀s,s<29→wk (wu (s+1))≤wk (wu s)+2^xq (wu s):=by decide+kernel
theorem zj {k : Nat} (h1 : 3 ≤ k) (h2 : k ≤ 258) : 257 ≤ xF k ∧ xF k ≤ 285 ∧ wk (lenOf (xF k)) ≤ k ∧ k < wk (lenOf (xF k)) + 2 ^ xq (lenOf (xF k)) := by
 have key:∀n s,s=257+n→s≤285→(s=285∨k<wk (lenOf (s+1)))→257≤zr lenOf k s∧zr lenOf k s≤285∧wk (lenOf (zr lenOf k s))≤k∧k<wk (lenOf (zr lenOf k s))+2^xq (lenOf (zr lenOf k s)):=by
  intro n
  induction n with
  | zero =>
    intro s hs h hk
    obtain rfl:s=257:=hs
    have e:zr lenOf k 257=257:=by rw[zr,if_pos (show wk (lenOf (256+1))≤k from h1)]
    have g:=K7 257 (by omega) (by omega)
    rw[e]
    refine⟨by omega,by omega,h1, ?_⟩
    rcases hk with q|q
    · omega
    · omega
  | succ n ih =>
    intro s hs h hk
    obtain⟨s,rfl⟩:∃t,s=t+1:=⟨s-1,by omega⟩
    by_cases c:wk (lenOf (s+1))≤k
    · rw [zr, if_pos c]
      refine⟨by omega,by omega,c, ?_⟩
      rcases hk with q|q
      · obtain rfl:s=284:=by omega
        have:wk (lenOf (284+1))=258:=rfl
        have:0<2^xq (lenOf (284+1)):=Nat.pow_pos (by omega)
        omega
      · by_cases c2:s+1=285
        · obtain rfl:s=284:=by omega
          have:wk (lenOf (284+1))=258:=rfl
          have:0<2^xq (lenOf (284+1)):=Nat.pow_pos (by omega)
          omega
        · have:=K7 (s+1) (by omega) (by omega);omega
    · rw[zr,if_neg c]
      exact ih s (by omega) (by omega) (.inr (by omega))
 exact key 28 285 (by omega) (by omega) (.inl rfl)
theorem zh {k : Nat} (h1 : 1 ≤ k) (h2 : k ≤ 32768) : xN k ≤ 29 ∧ wk (wu (xN k)) ≤ k ∧ k < wk (wu (xN k)) + 2 ^ xq (wu (xN k)) := by
 have l0:wk (wu 0)=1:=rfl
 have key:∀s,s≤29→(s=29∨k<wk (wu (s+1)))→zr wu k s≤29∧wk (wu (zr wu k s))≤k∧k<wk (wu (zr wu k s))+2^xq (wu (zr wu k s)):=by
  intro s
  induction s with
  | zero =>
    intro h hk
    rw[zr]
    have g:=IC 0 (by omega)
    refine⟨by omega,by omega, ?_⟩
    rcases hk with q|q<;>omega
  | succ s ih =>
    intro h hk
    by_cases c:wk (wu (s+1))≤k
    · rw[zr,if_pos c]
      refine⟨by omega,c, ?_⟩
      by_cases c2:s+1=29
      · obtain rfl:s=28:=by omega
        have a1:wk (wu (28+1))=24577:=rfl
        have a2:2^xq (wu (28+1))=8192:=rfl
        omega
      · have:=IC (s+1) (by omega)
        rcases hk with q|q<;>omega
    · rw[zr,if_neg c]
      exact ih (by omega) (.inr (by omega))
 exact key 29 (by omega) (.inl rfl)
theorem Mg (k:Nat) (h1:3≤k) (h2:k≤258) (g:H) (id:Nat) (hf:g.floor≤id) (hfl:g.floor≤g.next) (hg:g.get id=some [.int .i64 0,.int .i64 0,.int .i64 0]):∀n s:Nat,s=257+n→s≤285→
 Lp AP.A [0,2,4] AP.f28L0 [(0,.int .i64 k),(2,.aD id 0),(4,.int .i64 s)] g=some (.ret,[(2,.aD id 0),(3,.int .i64 0)],g.set id [.int .i64 (zr lenOf k s:Nat),.int .i64 (xq (lenOf (zr lenOf k s)):Nat),.int .i64 ((k-wk (lenOf (zr lenOf k s)):Nat):Int)]):=by
 intro n
 induction n with
 | zero =>
   intro s hs h
   obtain rfl:s=257:=hs
   have e:zr lenOf k 257=257:=by rw[zr,if_pos (show wk (lenOf (256+1))≤k from h1)]
   have l1:wk (lenOf 257)=3:=rfl
   have b1:xq (lenOf 257)=0:=rfl
   have kk:aR AP.A 50 [.int .i64 257] g=_:=Fc g 257 (by omega)
   have tt:zO (lenOf 257)=.bM [.int .i64 3,.int .i64 0,.int .i64 0]:=rfl
   rw[tt]at kk
   rw[e,l1,b1]
   have n1:((k-3:Nat):Int)=(k:Int)-3:=by omega
   rw[n1]
   refine uh ?_
   simp (disch:=first|omega|(simp only[xk,XO,XR,vr,Nat.reduceAdd];first|done|omega|fail)|(simp (disch:=first|omega|(simp only[xk,XO,XR,vr,Nat.reduceAdd];first|done|omega|fail)|fail)only[xk,Bb,XU,XO,XR,vr,Nat.reduceAdd];done)|fail)only[go_sem,vT,Ba,AP.f28L0,kk,hg]
 | succ n ih =>
   intro s hs h
   obtain⟨s,rfl⟩:∃t,s=t+1:=⟨s-1,by omega⟩
   obtain⟨a,b,hab⟩:=A9 (s:=s+1) (by omega) h
   have kk:=Fc g (s+1) (by omega)
   rw[hab]at kk
   simp only[I,zO]at kk
   have la:wk (lenOf (s+1))=a:=by rw[hab];rfl
   have lb:xq (lenOf (s+1))=b:=by rw[hab];rfl
   have bd:=BB hab
   by_cases c1:a≤k
   · rw[zr,la,if_pos c1,la,lb]
     have n1:((k-a:Nat):Int)=(k:Int)-(a:Int):=by omega
     rw[n1]
     refine uh ?_
     simp (disch:=first|omega|(simp only[xk,XO,XR,vr,Nat.reduceAdd];first|done|omega|fail)|(simp (disch:=first|omega|(simp only[xk,XO,XR,vr,Nat.reduceAdd];first|done|omega|fail)|fail)only[xk,Bb,XU,XO,XR,vr,Nat.reduceAdd];done)|fail)only[go_sem,vT,Ba,AP.f28L0,kk,hg]
   · rw[zr,la,if_neg c1]
     have r1:=ih s (by omega) (by omega)
     have n1:((s+1:Nat):Int)-1=(s:Int):=by omega
     refine tN (e':=[(0,.int .i64 k),(2,.aD id 0),(4,.int .i64 s)]) ?_ r1
     simp (disch:=first|omega|(simp only[xk,XO,XR,vr,Nat.reduceAdd];first|done|omega|fail)|(simp (disch:=first|omega|(simp only[xk,XO,XR,vr,Nat.reduceAdd];first|done|omega|fail)|fail)only[xk,Bb,XU,XO,XR,vr,Nat.reduceAdd];done)|fail)only[go_sem,vT,Ba,AP.f28L0,kk,n1]
theorem Jb (h:H) (k:Nat) (h1:3≤k) (h2:k≤258):aR AP.A 28 [.int .i64 k] h=some (.bM [.agg [.int .i64 (xF k:Nat),.int .i64 (za k:Nat),.int .i64 (zC k:Nat)],.int .i64 0],h):=by
 have r1:=Mg k h1 h2 (h.dN.alloc [.int .i64 0,.int .i64 0,.int .i64 0]) h.next (by simp) (by simp) (by rw[vZ (by simp)]) 28 285 (by omega) (by omega)
 have r1':Lp AP.A [0,2,4] AP.f28L0 [(0,.int .i64 k),(2,.aD h.next 0),(4,.int .i64 285)] (h.dN.alloc [.int .i64 0,.int .i64 0,.int .i64 0])=some (.ret,[(2,.aD h.next 0),(3,.int .i64 0)],(h.dN.alloc [.int .i64 0,.int .i64 0,.int .i64 0]).set h.next [.int .i64 (xF k:Nat),.int .i64 (za k:Nat),.int .i64 (zC k:Nat)]):=r1
 clear r1
 generalize xF k=S at *
 generalize za k=B at *
 generalize zC k=V at *
 refine uz (fn:=AP.f28) (h2:=(h.dN.alloc [.int .i64 0,.int .i64 0,.int .i64 0]).set h.next [.int .i64 S,.int .i64 B,.int .i64 V]) (e:=[(2,.aD h.next 0),(3,.int .i64 0)]) (vs:=[.agg [.int .i64 S,.int .i64 B,.int .i64 V],.int .i64 0]) rfl rfl rfl ?_ ?_ ?_
 · simp (disch:=first|omega|(simp only[xk,XO,XR,vr,Nat.reduceAdd];first|done|omega|fail)|(simp (disch:=first|omega|(simp only[xk,XO,XR,vr,Nat.reduceAdd];first|done|omega|fail)|fail)only[xk,Bb,XU,XO,XR,vr,Nat.reduceAdd];done)|fail)only[go_sem,vT,Ba,AP.f28,sG,r1']
 · simp (disch:=first|omega|(simp only[xk,XO,XR,vr,Nat.reduceAdd];first|done|omega|fail)|(simp (disch:=first|omega|(simp only[xk,XO,XR,vr,Nat.reduceAdd];first|done|omega|fail)|fail)only[xk,Bb,XU,XO,XR,vr,Nat.reduceAdd];done)|fail)only[go_sem,vT,Ba,AP.f28,cw,nC];rfl
 · rfl
theorem J0 (k:Nat) (h1:1≤k) (h2:k≤32768) (g:H) (id:Nat) (hf:g.floor≤id) (hfl:g.floor≤g.next) (hg:g.get id=some [.int .i64 0,.int .i64 0,.int .i64 0]):∀n s:Nat,s=n→s≤29→
 Lp AP.A [0,2,4] AP.f29L0 [(0,.int .i64 k),(2,.aD id 0),(4,.int .i64 s)] g=some (.ret,[(2,.aD id 0),(3,.int .i64 0)],g.set id [.int .i64 (zr wu k s:Nat),.int .i64 (xq (wu (zr wu k s)):Nat),.int .i64 ((k-wk (wu (zr wu k s)):Nat):Int)]):=by
 intro n
 induction n with
 | zero =>
   intro s hs h
   obtain rfl:s=0:=hs
   have e:zr wu k 0=0:=rfl
   have l1:wk (wu 0)=1:=rfl
   have b1:xq (wu 0)=0:=rfl
   have kk:aR AP.A 51 [.int .i64 0] g=_:=Dr g 0 (by omega)
   have tt:zO (wu 0)=.bM [.int .i64 1,.int .i64 0,.int .i64 0]:=rfl
   rw[tt]at kk
   rw[e,l1,b1]
   have n1:((k-1:Nat):Int)=(k:Int)-1:=by omega
   rw[n1]
   refine uh ?_
   simp (disch:=first|omega|(simp only[xk,XO,XR,vr,Nat.reduceAdd];first|done|omega|fail)|(simp (disch:=first|omega|(simp only[xk,XO,XR,vr,Nat.reduceAdd];first|done|omega|fail)|fail)only[xk,Bb,XU,XO,XR,vr,Nat.reduceAdd];done)|fail)only[go_sem,vT,Ba,AP.f29L0,kk,hg]
 | succ n ih =>
   intro s hs h
   obtain⟨s,rfl⟩:∃t,s=t+1:=⟨s-1,by omega⟩
   obtain⟨a,b,hab⟩:=Ar (s:=s+1) h
   have kk:=Dr g (s+1) (by omega)
   rw[hab]at kk
   simp only[I,zO]at kk
   have la:wk (wu (s+1))=a:=by rw[hab];rfl
   have lb:xq (wu (s+1))=b:=by rw[hab];rfl
   have bd:=AG hab
   by_cases c1:a≤k
   · rw[zr,la,if_pos c1,la,lb]
     have n1:((k-a:Nat):Int)=(k:Int)-(a:Int):=by omega
     rw[n1]
     refine uh ?_
     simp (disch:=first|omega|(simp only[xk,XO,XR,vr,Nat.reduceAdd];first|done|omega|fail)|(simp (disch:=first|omega|(simp only[xk,XO,XR,vr,Nat.reduceAdd];first|done|omega|fail)|fail)only[xk,Bb,XU,XO,XR,vr,Nat.reduceAdd];done)|fail)only[go_sem,vT,Ba,AP.f29L0,kk,hg]
   · rw[zr,la,if_neg c1]
     have r1:=ih s (by omega) (by omega)
     have n1:((s+1:Nat):Int)-1=(s:Int):=by omega
     refine tN (e':=[(0,.int .i64 k),(2,.aD id 0),(4,.int .i64 s)]) ?_ r1
     simp (disch:=first|omega|(simp only[xk,XO,XR,vr,Nat.reduceAdd];first|done|omega|fail)|(simp (disch:=first|omega|(simp only[xk,XO,XR,vr,Nat.reduceAdd];first|done|omega|fail)|fail)only[xk,Bb,XU,XO,XR,vr,Nat.reduceAdd];done)|fail)only[go_sem,vT,Ba,AP.f29L0,kk,n1]
theorem M6 (h:H) (k:Nat) (h1:1≤k) (h2:k≤32768):aR AP.A 29 [.int .i64 k] h=some (.bM [.agg [.int .i64 (xN k:Nat),.int .i64 (zg k:Nat),.int .i64 (zH k:Nat)],.int .i64 0],h):=by
 have r1:=J0 k h1 h2 (h.dN.alloc [.int .i64 0,.int .i64 0,.int .i64 0]) h.next (by simp) (by simp) (by rw[vZ (by simp)]) 29 29 (by omega) (by omega)
 have r1':Lp AP.A [0,2,4] AP.f29L0 [(0,.int .i64 k),(2,.aD h.next 0),(4,.int .i64 29)] (h.dN.alloc [.int .i64 0,.int .i64 0,.int .i64 0])=some (.ret,[(2,.aD h.next 0),(3,.int .i64 0)],(h.dN.alloc [.int .i64 0,.int .i64 0,.int .i64 0]).set h.next [.int .i64 (xN k:Nat),.int .i64 (zg k:Nat),.int .i64 (zH k:Nat)]):=r1
 clear r1
 generalize xN k=S at *
 generalize zg k=B at *
 generalize zH k=V at *
 refine uz (fn:=AP.f29) (h2:=(h.dN.alloc [.int .i64 0,.int .i64 0,.int .i64 0]).set h.next [.int .i64 S,.int .i64 B,.int .i64 V]) (e:=[(2,.aD h.next 0),(3,.int .i64 0)]) (vs:=[.agg [.int .i64 S,.int .i64 B,.int .i64 V],.int .i64 0]) rfl rfl rfl ?_ ?_ ?_
 · simp (disch:=first|omega|(simp only[xk,XO,XR,vr,Nat.reduceAdd];first|done|omega|fail)|(simp (disch:=first|omega|(simp only[xk,XO,XR,vr,Nat.reduceAdd];first|done|omega|fail)|fail)only[xk,Bb,XU,XO,XR,vr,Nat.reduceAdd];done)|fail)only[go_sem,vT,Ba,AP.f29,sG,r1']
 · simp (disch:=first|omega|(simp only[xk,XO,XR,vr,Nat.reduceAdd];first|done|omega|fail)|(simp (disch:=first|omega|(simp only[xk,XO,XR,vr,Nat.reduceAdd];first|done|omega|fail)|fail)only[xk,Bb,XU,XO,XR,vr,Nat.reduceAdd];done)|fail)only[go_sem,vT,Ba,AP.f29,cw,nC];rfl
 · rfl
theorem Sd (h:H) (v:AV) (ts:List Tok) (hn:ts.length<1000000000) (rd:yC 3 h v ts.length (wJ ts)):aR AP.A 69 [v] h=some (.bool (wo 0 ts),h):=by
 have y9:yC 3 h.dN v ts.length (wJ ts):=rd.mono fun i c q=>q
 have hfl:h.dN.floor≤h.dN.next:=by simp
 rcases G8 hn h.dN y9 ts [] 0 h.dN rfl (by omega) (Ext.refl _) (vm _) hfl with ⟨e',h',r1,r2⟩|⟨e',h',r1,r2,r3⟩
 · have r1':Lp AP.A [0,3,4] AP.f69L0 [(0,v),(3,.int .i64 0),(4,.int .i64 0)] h.dN=some (.exit 0,e',h'):=r1
   rw[r2]
   refine uz (fn:=AP.f69) (h2:=h') (e:=[(2,.bool true)]) rfl rfl rfl ?_ rfl rfl
   simp (disch:=omega)only[go_sem,vT,AP.f69,sG,r1']
 · have r1':Lp AP.A [0,3,4] AP.f69L0 [(0,v),(3,.int .i64 0),(4,.int .i64 0)] h.dN=some (.ret,e',h'):=r1
   rw[r3]
   obtain⟨e2,he2⟩:∃e2,aL (aR AP.A) bq AP.f69.body (params 0 [v]) h.dN=some (.ret,e2,h')∧look e2 2=.bool false:=by
    refine⟨e', ?_,r2⟩
    simp (disch:=omega)only[go_sem,vT,AP.f69,sG,r1']
   refine uz (fn:=AP.f69) (h2:=h') (e:=e2) (vs:=[.bool false]) rfl rfl rfl he2.1 ?_ rfl
   simp only[AP.f69,cw,nC,he2.2];rfl
def Hr (d:Nat):Nat→List Nat→List Nat
 |0,o=>o
 |n+1,o=>Hr d n (o++[o.getD (o.length-d) 0])
theorem CU (d:Nat):∀n o,(Hr d n o).length=o.length+n
 |0,o=>rfl
 |n+1,o=>by rw[Hr,CU d n];simp;omega
theorem KR (d:Nat):∀n o,JR o→JR (Hr d n o)
 |0,o,h=>h
 | n + 1, o, h => by
   refine KR d n _ fun x hx=> ?_
   rcases Ya.1 hx with q|q
   · exact h x q
   · simp only[List.mem_singleton]at q
     subst q
     rw[XN]
     cases hg:o[o.length-d]? with
     |none=>simp
     |some y=>exact h y (vq hg)
def wK (o:List Nat) (t:Tok):List Nat:=if t.len=0 then o++[t.lit.toNat]else Hr t.wB.toNat t.len.toNat o
def yj:List Tok→List Nat→List Nat
 |[],o=>o
 |t::r,o=>yj r (wK o t)
theorem Ix {v:AV} {ts:List Tok} (hn:ts.length<1000000000) (h0:H) (rd:yC 3 h0 v ts.length (wJ ts)) (i:Nat) (t:Tok) (ht:ts[i]?=some t) (L D:Nat) (hL:t.len=L) (hD:t.wB=D) (hLb:L≤258) (hD1:1≤D):∀(m j:Nat) (out:List Nat) (h:H) (ov:AV),j+m=L→D≤out.length→out.length+m≤10000→JR out→Ext h0 h→h0.next≤h.floor→h.floor≤h.next→wz 1 h ov out.length (yM out)→
 ∃h' ov',Lp AP.A [0,4,5,6] AP.f55L0 [(0,v),(4,ov),(5,.int .i64 i),(6,.int .i64 j)] h=some (.exit 2,[(0,v),(4,ov'),(5,.int .i64 i),(6,.int .i64 L),(37,.bool false)],h')∧Ext h0 h'∧h'.floor=h.floor∧h'.floor≤h'.next∧wz 1 h' ov' (Hr D m out).length (yM (Hr D m out))
 | 0, j, out, h, ov, hj, hDo, hs, hb, hx, hf, hfn, ow => by
   obtain rfl:j=L:=by omega
   obtain⟨ad,a1,a2,a3⟩:=rd.HZ
   have hi:i<ts.length:=(vh.1 ht).1
   have hI:(0:Int)≤(i:Int)∧(i:Int)<ts.length:=⟨by omega,by omega⟩
   have b1:=a1 _ hI
   have b2:=a2 i 0 1 hI
   obtain⟨_,b3,_,_⟩:=a3 h hx _ _ ht
   rw[hL]at b3
   clear a1 a2 a3
   refine⟨h,ov,tM ?_,hx,rfl,hfn,ow⟩
   simp (disch:=omega)only[go_sem,vT,AP.f55L0,b1,b2,b3]
 | m + 1, j, out, h, ov, hj, hDo, hs, hb, hx, hf, hfn, ow => by
   obtain⟨ad,a1,a2,a3⟩:=rd.HZ
   have hi:i<ts.length:=(vh.1 ht).1
   have hI:(0:Int)≤(i:Int)∧(i:Int)<ts.length:=⟨by omega,by omega⟩
   have b1:=a1 _ hI
   have b2:=a2 i 0 1 hI
   have b2':=a2 i 0 2 hI
   obtain⟨_,b3,b4,_⟩:=a3 h hx _ _ ht
   rw[hL]at b3
   rw[hD]at b4
   clear a1 a2 a3
   rcases ow.2 with ⟨_,q⟩|⟨id,q1,q2,q3,q4⟩
   · omega
   obtain⟨x,hxx⟩:∃x,out[out.length-D]?=some x:=⟨_,XQ (by omega)⟩
   have gx:=Oy hxx
   have gd:out.getD (out.length-D) 0=x:=by rw[XN,hxx];rfl
   obtain⟨v',h',p1,p2,p3,p4,p5,p6⟩:=ow.push hfn (z:=1) (m:=1) (by omega) (by omega) [.int .u8 x] rfl rfl (xP (by omega))
   have x8:=hb x (vq hxx)
   have hxn:Ext h0 h':=fun k c hk=>by
    have:=h0.lt _ _ hk
    rw[p5 k (fun e=>by rw[q1]at e;have:=u6 e;omega) (by omega),hx k c hk]
   have ow2:wz 1 h' v' (out++[x]).length (yM (out++[x])):=by rw[Bl,vI];exact p2
   obtain⟨h2,ov',r1,r2,r3,r4,r5⟩:=Ix hn h0 rd i t ht L D hL hD hLb hD1 m (j+1) (out++[x]) h' v' (by omega) (by simp;omega) (by simp;omega) (fun y hy=>by
    rcases Ya.1 hy with q|q
    · exact hb y q
    · simp at q;omega) hxn (by omega) (by omega) ow2
   have n1:((j+1:Nat):Int)=(j:Int)+1:=by omega
   have n2:(out.length:Int)-(D:Int)=((out.length-D:Nat):Int):=by omega
   have bl:=MU out
   rw[Hr,gd]
   refine⟨h2,ov',tN ?_ r1,r2,by omega,r4,r5⟩
   rw[n1]
   subst q1
   clear r5 hb x8 ow2 r1 r2 hx hxn
   generalize yM out=BO at *
   simp (disch:=omega)only[go_sem,vT,AP.f55L0,b1,b2,b2',b3,b4,n2,q2,gx,bl,p1]
theorem EW {v : AV} {ts : List Tok} (hn : ts.length < 1000000000) (h0 : H) (rd : yC 3 h0 v ts.length (wJ ts)) : ∀ (q p : List Tok) (out : List Nat) (h : H) (ov : AV), ts = p ++ q → wo out.length q = true → out.length ≤ 8192 → JR out → Ext h0 h → h0.next ≤ h.floor → h.floor ≤ h.next → wz 1 h ov out.length (yM out) →
 ∃e' h' ov',Lp AP.A [0,4,5] AP.f55L1 [(0,v),(4,ov),(5,.int .i64 p.length)] h=some (.exit 0,e',h')∧look e' 4=ov'∧h'.floor=h.floor∧wz 1 h' ov' (yj q out).length (yM (yj q out))∧(yj q out).length≤8192∧JR (yj q out)
 | [], p, out, h, ov, hp, hm, hs, hb, hx, hf, hfn, ow => by
   rw[XZ]at hp;subst hp
   have ln:=rd.len
   refine⟨[(0,v),(4,ov),(5,.int .i64 ts.length),(13,.bool false)],h,ov,tM ?_,rfl,rfl,ow,hs,hb⟩
   simp (disch:=omega)only[go_sem,vT,AP.f55L1,ln]
 | t :: q, p, out, h, ov, hp, hm, hs, hb, hx, hf, hfn, ow => by
   have ln:=rd.len
   have hlen:ts.length=p.length+(q.length+1):=by rw[hp];simp
   have ht:ts[p.length]?=some t:=by rw[hp];simp
   obtain⟨ad,a1,a2,a3⟩:=rd.HZ
   have hI:(0:Int)≤(p.length:Int)∧(p.length:Int)<ts.length:=⟨by omega,by omega⟩
   have b1:=a1 _ hI
   have b2:=a2 p.length 0 1 hI
   have b2':=a2 p.length 0 0 hI
   obtain⟨b3,b4,_,_⟩:=a3 h hx _ _ ht
   rw[wo]at hm
   have pl:p.length<ts.length:=by omega
   cases hst:wS out.length t with
   |none=>rw[hst]at hm;cases hm
   | some s' =>
     rw[hst]at hm
     simp only at hm
     by_cases k:8192<s'
     · rw[if_pos k]at hm;cases hm
     rw[if_neg k]at hm
     unfold wS at hst
     have n1:(((p++[t]).length:Nat):Int)=(p.length:Int)+1:=by simp
     by_cases c0:t.len=0
     · rw[if_pos c0]at hst
       by_cases c:t.lit<0∨255<t.lit∨t.wB≠0
       · rw[if_pos c]at hst;cases hst
       rw[if_neg c]at hst
       obtain rfl:=u6 hst
       obtain⟨x,hxl⟩:∃x:Nat,t.lit=x:=XT (by omega)
       have es:wK out t=out++[x]:=by unfold wK;rw[if_pos c0,hxl];rfl
       have hx8:x<256:=by omega
       obtain⟨v',h',p1,p2,p3,p4,p5,p6⟩:=ow.push hfn (z:=1) (m:=1) (by omega) (by omega) [.int .u8 x] rfl rfl (xP (by omega))
       have hxn:Ext h0 h':=fun k c hk=>by
        have:=h0.lt _ _ hk
        rw[p5 k (fun e=>by have:=ow.lt e;omega) (by omega),hx k c hk]
       have ow2:wz 1 h' v' (out++[x]).length (yM (out++[x])):=by rw[Bl,vI];exact p2
       have hx3:Ext h0 h':=hxn
       obtain⟨b3',b4',_,_⟩:=a3 h' hxn _ _ ht
       rw[hxl]at b3
       rw[c0]at b4 b4'
       have wx:=Vw (n:=x) hx8
       clear a1 a2 a3
       obtain⟨e',h2,ov',r1,r2,r3,r4,r5,r6⟩:=EW hn h0 rd q (p++[t]) (out++[x]) h' v' (by rw[hp];simp) (by rw[←hm];simp) (by simp;omega) (fun y hy=>by
        rcases Ya.1 hy with q|q
        · exact hb y q
        · simp at q;omega) hxn (by omega) (by omega) ow2
       have L0:Lp AP.A [0,4,5,6] AP.f55L0 [(0,v),(4,v'),(5,.int .i64 p.length),(6,.int .i64 0)] h'=some (.exit 2,[(0,v),(4,v'),(5,.int .i64 p.length),(6,.int .i64 0),(37,.bool false)],h'):=by
        refine tM ?_
        simp (disch:=omega)only[go_sem,vT,AP.f55L0,b1,b2,b4']
       rw[yj,es]
       refine⟨e',h2,ov',tN ?_ r1,r2,by omega,r4,r5,r6⟩
       rw[n1]
       clear r1 r2 r4 r5 r6 hm hp hx hxn hx3 hb hst c
       simp (disch:=omega)only[go_sem,vT,AP.f55L1,ln,b1,b2,b2',b3,b4,wx,p1,sG,L0]
     · rw[if_neg c0]at hst
       by_cases c:t.len<3∨258<t.len∨t.wB<1∨32768<t.wB∨(out.length:Int)<t.wB∨t.lit≠0
       · rw[if_pos c]at hst;cases hst
       rw[if_neg c]at hst
       obtain rfl:=u6 hst
       obtain⟨L,hL⟩:∃x:Nat,t.len=x:=XT (by omega)
       obtain⟨D,hD⟩:∃x:Nat,t.wB=x:=XT (by omega)
       have es:wK out t=Hr D L out:=by unfold wK;rw[if_neg c0,hL,hD];rfl
       have cl:=CU D L out
       have cb:=KR D L out hb
       obtain⟨h',v',L0,s1,s2,s3,s4⟩:=Ix hn h0 rd p.length t ht L D hL hD (by omega) (by omega) L 0 out h ov (by omega) (by omega) (by omega) hb hx hf hfn ow
       have L0':Lp AP.A [0,4,5,6] AP.f55L0 [(0,v),(4,ov),(5,.int .i64 p.length),(6,.int .i64 0)] h=_:=L0
       obtain⟨e',h2,ov',r1,r2,r3,r4,r5,r6⟩:=EW hn h0 rd q (p++[t]) (Hr D L out) h' v' (by rw[hp];simp) (by rw[←hm,cl,hL];simp) (by omega) cb s1 (by omega) s3 s4
       rw[yj,es]
       refine⟨e',h2,ov',tN ?_ r1,r2,by omega,r4,r5,r6⟩
       rw[n1]
       have c0':¬(L:Int)=0:=by omega
       rw[hL]at b4
       clear r1 r2 r4 r5 r6 hm hp hx hb hst c c0 L0 s4 cb es a1 a2 a3
       simp (disch:=omega)only[go_sem,vT,AP.f55L1,ln,b1,b2,b2',b4,sG,L0',c0']
def yK (ts:List Tok):Option ByteArray:=if wo 0 ts=true then some (bytesOf (yj ts []))else none
def LX:Option ByteArray→AV
 |some t=>.bM [.str t,.int .i64 0]
 |none=>.bM [.str ⟨#[]⟩,.int .i64 500]
theorem M9 (h:H) (v:AV) (ts:List Tok) (hn:ts.length<1000000000) (rd:yC 3 h v ts.length (wJ ts)):aR AP.A 55 [v] h=some (LX (yK ts),h)∧∀t,yK ts=some t→t.size≤8192:=by
 have k1:∀g:H,g=h.dN→aR AP.A 69 [v] g=some (.bool (wo 0 ts),g):=fun g e=>by subst e;exact Sd h.dN v ts hn (rd.mono fun i c q=>q)
 unfold yK
 by_cases hm:wo 0 ts=true
 · rw[if_pos hm]
   have y9:yC 3 h.dN v ts.length (wJ ts):=rd.mono fun i c q=>q
   obtain⟨e',h',ov',r1,r2,r3,r4,r5,r6⟩:=EW hn h.dN y9 ts [] [] h.dN .aP rfl hm (by simp) (fun _ h=>by simp at h) (Ext.refl _) (by simp) (by simp) wz.nil
   have r1':Lp AP.A [0,4,5] AP.f55L1 [(0,v),(4,.aP),(5,.int .i64 0)] h.dN=some (.exit 0,e',h'):=r1
   have b:=CK r4
   have k:=k1 _ rfl
   rw[hm]at k
   refine⟨?_,fun t ht=> ?_⟩
   · generalize bytesOf (yj ts [])=B at *
     refine uz (fn:=AP.f55) (h2:=h') (e:=[(2,.str B),(3,.int .i64 0)]) rfl rfl rfl ?_ rfl rfl
     clear r1 r4 r5 r6 y9 rd k1
     simp (disch:=omega)only[go_sem,vT,AP.f55,k,sG,r1',r2,b]
   · obtain rfl:=u6 ht
     rw[xf];omega
 · rw[if_neg hm]
   have k:=k1 _ rfl
   rw[Bool.eq_false_iff.2 hm]at k
   refine⟨?_,fun t ht=>by cases ht⟩
   refine uz (fn:=AP.f55) (h2:=h.dN) (e:=[(2,.str ⟨#[]⟩),(3,.int .i64 500)]) rfl rfl rfl ?_ rfl rfl
   clear rd k1
   simp (disch:=omega)only[go_sem,vT,AP.f55,k]
def Ds (ts:List Tok):Bool:=match yK ts with
 |some t=>decide (t.size≤300)
 |none=>false
theorem Ph (h:H) (v:AV) (ts:List Tok) (hn:ts.length<1000000000) (rd:yC 3 h v ts.length (wJ ts)):aR AP.A 27 [v] h=some (.bool (Ds ts),h):=by
 obtain⟨k,kl⟩:=M9 h.dN v ts hn (rd.mono fun i c q=>q)
 unfold Ds
 cases he:yK ts with
 | none =>
   rw[he]at k
   simp only[LX]at k
   refine uz (fn:=AP.f27) (h2:=h.dN) (e:=[(2,.bool false)]) rfl rfl rfl ?_ rfl rfl
   clear rd kl
   simp (disch:=omega)only[go_sem,vT,AP.f27,k]
 | some t =>
   rw[he]at k
   have:=kl t he
   simp only[LX]at k
   refine uz (fn:=AP.f27) (h2:=h.dN) (e:=[(2,.bool (decide (t.size≤300)))]) rfl rfl rfl ?_ rfl rfl
   clear rd kl
   by_cases c:t.size≤300
   · simp (disch:=omega)only[go_sem,vT,AP.f27,k,XS c]
   · simp (disch:=omega)only[go_sem,vT,AP.f27,k,XP c]
end Ab
