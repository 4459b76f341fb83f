/- Part C2. -/
import Derived.Test.YtcapkjggnnakfaaGreatDoorC1
set_option linter.unusedSimpArgs false
set_option linter.unusedVariables false
namespace Ab
open Go
theorem z8 {c:FC} {S:SS} {h:H} {ov:AV} (st:Ft c S h ov) (a b:AV) (n d i:Nat) (hs:n≤i∨(i<n∧S.e≠0)):
 ∃e',Lp AP.A [0,1,2,10,14,15] AP.f20L0 [(0,.aC c.f 0),(1,a),(2,b),(10,I n),(14,I d),(15,I i)] h=some (.exit 2,e',h)∧look e' 0=.aC c.f 0∧look e' 1=a∧look e' 2=b:=by
 have gf:=st.gf
 refine⟨[(0,.aC c.f 0),(1,a),(2,b),(10,I n),(14,I d),(15,I i),(107,.bool false)],tF ?_,rfl,rfl,rfl⟩
 rcases hs with hn|⟨hn,he⟩
 · have c1:¬(i:Int)<n:=by omega
   simp only[I]at *
   simp only[AP.f20L0,go_sem,W8 c1]
 · have c1:(i:Int)<n:=by omega
   have c2:=ux he
   simp only[I]at *
   simp only[AP.f20L0,go_sem,Xb c1,gf,c2]
theorem C6 {c : FC} (a b : AV) (d : Nat) (hd : 0 < d) (n : Nat) (hn : n ≤ 65535) : ∀ (m i : Nat) (S : SS) (h : H) (ov : AV), i + m = n → Ft c S h ov → S.e = 0 → d ≤ S.out.length →
 ∃ e' h' ov' S', Lp AP.A [0, 1, 2, 10, 14, 15] AP.f20L0 [(0, .aC c.f 0), (1, a), (2, b), (10, I n), (14, I d), (15, I i)] h = some (.exit 2, e', h') ∧ look e' 0 = .aC c.f 0 ∧ look e' 1 = a ∧ look e' 2 = b ∧ Ft c S' h' ov' ∧ FF c h ov h' ov' ∧ match Ac c.most d m S.out with
   | .ok o=>S'={S with out:=o}
   | .error k=>S'.e=k∧k≠0
 | 0, i, S, h, ov, hm, st, he, hl => by
   obtain⟨e',q,q2⟩:=z8 st a b n d i (.inl (by omega))
   exact⟨e',h,ov,S,q,q2.1,q2.2.1,q2.2.2,st,FF.refl _ _ _,by simp only[Ac]⟩
 | m + 1, i, S, h, ov, hm, st, he, hl => by
   have gf:=st.gf
   have hol:=st.ol
   have hml:=st.ml
   have ln:=st.own.len
   rw[yd]at ln
   have c1:(i:Int)<n:=by omega
   have w1:IntKind.wrap .i64 ((i:Int)+1)=((i+1:Nat):Int):=vK (n:=i+1) (by omega)
   have w2:IntKind.wrap .i64 ((S.out.length:Int)-d)=((S.out.length-d:Nat):Int):=by rw[show(S.out.length:Int)-d=((S.out.length-d:Nat):Int)by omega];exact vK (by omega)
   have hb:=Hp (l:=S.out) (i:=S.out.length-d) (by omega)
   obtain⟨id,i1,i2,i3⟩:=st.own.elem hb
   obtain⟨h2,ov2,S2,p1,p2,p3,p4⟩:=GW st he (S.out.getD (S.out.length-d) 0)
   have step:aM (aS AP.A) bB AP.f20L0 (ax [(0,.aC c.f 0),(1,a),(2,b),(10,I n),(14,I d),(15,I i)] [0,1,2,10,14,15]) h=some (.normal,[(0,.aC c.f 0),(1,a),(2,b),(10,I n),(14,I d),(15,I (i+1:Nat))],h2):=by
    clear i1
    rw[he]at gf
    simp only[I]at *
    simp only[AP.f20L0,go_sem,Xb c1,gf,ln,w2,i2,i3,hb,p1,w1]
   rw[Ac]
   by_cases hm':c.most≤S.out.length
   · rw[if_pos hm']at p4 ⊢
     have he2:S2.e=701:=by rw[p4]
     have hs:n≤i+1∨(i+1<n∧S2.e≠0):=by
      by_cases q:i+1<n
      · exact .inr ⟨q,by rw[he2];decide⟩
      · exact .inl (by omega)
     obtain⟨e',q,q2⟩:=z8 p2 a b n d (i+1) hs
     exact⟨e',h2,ov2,_,tG step q,q2.1,q2.2.1,q2.2.2,p2,p3,he2,by decide⟩
   · rw[if_neg hm']at p4 ⊢
     subst p4
     obtain⟨e',h',ov',S',q1,q2,q3,q4,q5,q6,q7⟩:=C6 a b d hd n hn m (i+1) _ h2 ov2 (by omega) p2 rfl (by simp;omega)
     refine⟨e',h',ov',S',tG step q1,q2,q3,q4,q5,p3.trans q6, ?_⟩
     dsimp only at q7 ⊢
     rw[he]
     exact q7
theorem zq {c:FC} {S:SS} {h:H} {ov:AV} (st:Ft c S h ov) (a b:AV) (hs:S.e≠0):
 ∃e',Lp AP.A [0,1,2] AP.f20L1 [(0,.aC c.f 0),(1,a),(2,b)] h=some (.exit 0,e',h):=by
 have gf:=st.gf
 refine⟨[(0,.aC c.f 0),(1,a),(2,b),(20,.bool false)],tF ?_⟩
 have c2:=ux hs
 simp only[I]at *
 simp only[AP.f20L1,go_sem,gf,c2]
theorem Aj {c : FC} (ll dl : List Int) (hll : ll.length < 1000) (hdl : dl.length < 1000) : ∀ (k : Nat) (S : SS) (h : H) (ov : AV), Ft c S h ov → S.e = 0 → 8 * c.text.size < S.at_ + k →
 ∃e' h' ov' S',(Lp AP.A [0,1,2] AP.f20L1 [(0,.aC c.f 0),(1,wa ll),(2,wa dl)] h=some (.ret,e',h')∨Lp AP.A [0,1,2] AP.f20L1 [(0,.aC c.f 0),(1,wa ll),(2,wa dl)] h=some (.exit 0,e',h'))∧Ft c S' h' ov'∧FF c h ov h' ov'∧Fin (yu c.text c.most ll dl k S.at_ S.out) S'
 |0,S,h,ov,st,he,hk=>by have:=st.xE;omega
 | k + 1, S, h, ov, st, he, hk => by
   have gf:=st.gf
   rw[he]at gf
   obtain⟨h1,S1,z,s1,s2,s3,s4⟩:=BL ll hll st he
   have gf1:=s2.gf
   rw[yu]
   cases hz:yD c.text ll 15 1 0 S.at_ with
   | none =>
     rw[hz]at s4
     obtain⟨s4,s5⟩:=s4
     have ce:(S1.e !=0)=true:=uA (by rw[s4];decide)
     refine⟨[(0,.aC c.f 0),(1,wa ll),(2,wa dl),(6,I z),(32,.bool true)],h1,ov,S1,.inl (uc ?_),s2,s3,s4,by decide⟩
     simp only[I]at *
     simp only[AP.f20L1,go_sem,gf,s1,gf1,ce]
   | some zp =>
     obtain⟨z2,p1⟩:=zp
     rw[hz]at s4
     obtain⟨s4,s5⟩:=s4
     subst s5 s4
     dsimp only at gf1
     rw[he]at gf1
     have zb:=yz hz
     obtain⟨y,hy⟩:∃n:Nat,z=n:=Xs zb.1
     subst hy
     dsimp only
     by_cases c1:(y:Int)<256
     · rw[if_pos c1]
       have w1:IntKind.wrap .u8 (y:Int)=y:=wrap_u8 (by omega)
       have c256:((y:Int)==256)=false:=ux (by omega)
       obtain⟨h2,ov2,S2,p1',p2',p3',p4'⟩:=GW s2 he y
       have step:aM (aS AP.A) bB AP.f20L1 (ax [(0,.aC c.f 0),(1,wa ll),(2,wa dl)] [0,1,2]) h=some (.normal,[(0,.aC c.f 0),(1,wa ll),(2,wa dl)],h2):=by
        simp only[I]at *
        simp only[AP.f20L1,go_sem,gf,s1,gf1,c256,Xb c1,w1,p1']
       dsimp only at p4'
       by_cases hm:c.most≤S.out.length
       · rw[if_pos hm]at p4' ⊢
         have he2:S2.e=701:=by rw[p4']
         obtain⟨e',q⟩:=zq p2' (wa ll) (wa dl) (by rw[he2];decide)
         exact⟨e',h2,ov2,_,.inr (tG step q),p2',s3.trans p3',he2,by decide⟩
       · rw[if_neg hm]at p4' ⊢
         subst p4'
         obtain⟨e',h',ov',S',q1,q2,q3,q4⟩:=Aj ll dl hll hdl k _ h2 ov2 p2' rfl (by dsimp only;omega)
         refine⟨e',h',ov',S', ?_,q2,(s3.trans p3').trans q3,q4⟩
         rcases q1 with q1|q1
         · exact .inl (tG step q1)
         · exact .inr (tG step q1)
     · rw [if_neg c1]
       by_cases c2:(y:Int)=256
       · rw[if_pos c2]
         refine⟨[(0,.aC c.f 0),(1,wa ll),(2,wa dl),(6,I y),(32,.bool true)],h1,ov,_,.inl (uc ?_),s2,s3, ?_⟩
         · have c2':=uy c2
           simp only[I]at *
           simp only[AP.f20L1,go_sem,gf,s1,gf1,c2']
         · simp only[Fin];rw[he]
       · rw [if_neg c2]
         have c256:=ux c2
         have lo:=J0 h1 y (by omega)
         rw[XC]
         unfold Bm
         have n600:((600:Int) !=0)=true:=rfl
         have n0:((0:Int) !=0)=false:=rfl
         cases hlo:lenOf y with
         | none =>
           rw[hlo]at lo
           obtain⟨h2,f1,f2,f3⟩:=yB s2
           refine⟨[],h2,ov,_,.inl (uc ?_),f2,s3.trans f3,by simp [vX,he],by decide⟩
           simp only[I,Ar]at *
           simp only[AP.f20L1,go_sem,gf,s1,gf1,c256,W8 c1,lo,n600,f1]
         | some le =>
           obtain⟨least,extra⟩:=le
           rw[hlo]at lo
           obtain⟨b1,b2,b3⟩:=FY hlo
           obtain⟨h2,k1,k2,k3⟩:=ye s2 extra extra rfl (by omega)
           dsimp only
           by_cases hp:p1+extra≤8* c.text.size
           · have eg : wv c extra { S with at_ := p1 } = (vQ c.text p1 extra, { S with at_ := p1 + extra }) := by rw [wv, if_pos hp]
             rw[eg]at k1 k2
             dsimp only at k1 k2
             rw[if_pos hp]
             have gf2:=k2.gf
             dsimp only at gf2
             rw[he]at gf2
             have hve:=wQ c.text p1 extra
             have hve2:2^extra≤2^5:=Xn (by omega) b2
             have w1:IntKind.wrap .i64 ((least:Int)+(vQ c.text p1 extra:Int))=((least+vQ c.text p1 extra:Nat):Int):=by
              rw[show(least:Int)+(vQ c.text p1 extra:Int)=((least+vQ c.text p1 extra:Nat):Int)by omega];exact vK (by omega)
             obtain⟨h3,S3,z,s1',s2',s3',s4'⟩:=BL dl hdl k2 he
             have gf3:=s2'.gf
             dsimp only at s4'
             cases hz2:yD c.text dl 15 1 0 (p1+extra)with
             | none =>
               rw[hz2]at s4'
               obtain⟨s4',s5'⟩:=s4'
               have ce3:(S3.e !=0)=true:=uA (by rw[s4'];decide)
               refine⟨[(0,.aC c.f 0),(1,wa ll),(2,wa dl),(10,I (least+vQ c.text p1 extra:Nat)),(11,I z),(66,.bool true)],h3,ov,S3,.inl (uc ?_),s2',(s3.trans k3).trans s3',s4',by decide⟩
               simp only[I,Ar]at *
               simp only[AP.f20L1,go_sem,gf,s1,gf1,c256,W8 c1,lo,n0,k1,w1,gf2,s1',gf3,ce3]
             | some zp =>
               obtain⟨z2,p2⟩:=zp
               rw[hz2]at s4'
               obtain⟨s4',s5'⟩:=s4'
               subst s5' s4'
               have zb2:=yz hz2
               obtain⟨zn,hzn⟩:∃n:Nat,z=n:=Xs zb2.1
               subst hzn
               have dob:=IJ h3 zn (by omega)
               dsimp only at gf3 ⊢
               rw[he]at gf3
               rw[XC]
               cases hdo:yw zn with
               | none =>
                 rw[hdo]at dob
                 obtain⟨h4,f1,f2,f3⟩:=yB s2'
                 refine⟨[],h4,ov,_,.inl (uc ?_),f2,((s3.trans k3).trans s3').trans f3,by simp [vX,he],by decide⟩
                 simp only[I,Ar]at *
                 simp only[AP.f20L1,go_sem,gf,s1,gf1,c256,W8 c1,lo,n0,k1,w1,gf2,s1',gf3,dob,n600,f1]
               | some lx =>
                 obtain⟨ld,xd⟩:=lx
                 rw[hdo]at dob
                 obtain⟨d1,d2,d3⟩:=DX hdo
                 obtain⟨h4,v1,v2,v3⟩:=ye s2' xd xd rfl (by omega)
                 obtain⟨x,hx⟩:∃x,x=(wv c xd {S with at_:=p2}).1:=⟨_,rfl⟩
                 obtain⟨S4,hS4⟩:∃x,x=(wv c xd {S with at_:=p2}).2:=⟨_,rfl⟩
                 rw[←hx]at v1;rw[←hS4]at v2
                 have hxb:x<65536:=hx ▸ EP c _ xd (by omega)
                 have w2:IntKind.wrap .i64 ((ld:Int)+(x:Int))=((ld+x:Nat):Int):=by
                  rw[show(ld:Int)+(x:Int)=((ld+x:Nat):Int)by omega];exact vK (by omega)
                 have gf4:=v2.gf
                 have ln:=v2.own.len
                 rw[yd]at ln
                 have frs:=((s3.trans k3).trans s3').trans v3
                 dsimp only
                 have toLoop:∀(h5:H) (e6:Env) (h6:H),((S4.e=0∧S4.out.length<ld+x∧aS AP.A 25 [.aC c.f 0] h4=some (.bP [],h5))∨((S4.e≠0∨¬S4.out.length<ld+x)∧h5=h4))→Lp AP.A [0,1,2,10,14,15] AP.f20L0 [(0,.aC c.f 0),(1,wa ll),(2,wa dl),(10,I (least+vQ c.text p1 extra:Nat)),(14,I (ld+x:Nat)),(15,I 0)] h5=some (.exit 2,e6,h6)→
                  look e6 0=.aC c.f 0→look e6 1=wa ll→look e6 2=wa dl→aM (aS AP.A) bB AP.f20L1 (ax [(0,.aC c.f 0),(1,wa ll),(2,wa dl)] [0,1,2]) h=some (.normal,[(0,.aC c.f 0),(1,wa ll),(2,wa dl)],h6):=by
                  intro h5 e6 h6 hcase q6 l0 l1 l2
                  rcases hcase with ⟨g1,g2,g3⟩|⟨g1,rfl⟩
                  · have g2':(S4.out.length:Int)<((ld+x:Nat):Int):=by omega
                    have g1':=uy g1
                    simp only[I,Ar]at *
                    simp only[AP.f20L1,go_sem,gf,s1,gf1,c256,W8 c1,lo,n0,k1,w1,gf2,s1',gf3,dob,v1,w2,gf4,g1',ln,Xb g2',g3,sF,q6,l0,l1,l2]
                  · by_cases g3:S4.e=0
                    · have g2:¬S4.out.length<ld+x:=by
                       rcases g1 with q|q
                       · exact absurd g3 q
                       · exact q
                      have g2':¬(S4.out.length:Int)<((ld+x:Nat):Int):=by omega
                      have g1':=uy g3
                      clear g1
                      simp only[I,Ar]at *
                      simp only[AP.f20L1,go_sem,gf,s1,gf1,c256,W8 c1,lo,n0,k1,w1,gf2,s1',gf3,dob,v1,w2,gf4,g1',ln,W8 g2',sF,q6,l0,l1,l2]
                    · have g1':=ux g3
                      clear g1
                      simp only[I,Ar]at *
                      simp only[AP.f20L1,go_sem,gf,s1,gf1,c256,W8 c1,lo,n0,k1,w1,gf2,s1',gf3,dob,v1,w2,gf4,g1',ln,sF,q6,l0,l1,l2]
                 by_cases hp2:p2+xd≤8* c.text.size
                 · have egx:wv c xd {S with at_:=p2}=(vQ c.text p2 xd,{S with at_:=p2+xd}):=by rw[wv,if_pos hp2]
                   rw[egx]at hx hS4;dsimp only at hx hS4
                   subst hS4
                   rw[←hx]
                   by_cases hbk:S.out.length<ld+x
                   · rw[if_neg (fun q=>by omega)]
                     obtain⟨h5,f1,f2,f3⟩:=yB v2
                     have he5:(vX 700 {S with at_:=p2+xd}).e=700:=by simp [vX,he]
                     obtain⟨e6,q6,q7,q8,q9⟩:=z8 f2 (wa ll) (wa dl) (least+vQ c.text p1 extra) (ld+x) 0 (.inr ⟨by omega,by rw[he5];decide⟩)
                     have step:=toLoop h5 e6 h5 (.inl ⟨he,hbk,f1⟩) q6 q7 q8 q9
                     obtain⟨e',q⟩:=zq f2 (wa ll) (wa dl) (by rw[he5];decide)
                     exact⟨e',h5,ov,_,.inr (tG step q),f2,frs.trans f3,he5,by decide⟩
                   · rw[if_pos ⟨hp2,by omega⟩]
                     obtain⟨e6,h6,ov6,S6,q1,q2,q3,q4,q5,q6,q7⟩:=C6 (c:=c) (wa ll) (wa dl) (ld+x) (by omega) (least+vQ c.text p1 extra) (by omega) (least+vQ c.text p1 extra) 0 _ h4 ov (by omega) v2 he (by dsimp only;omega)
                     have step:=toLoop h4 e6 h6 (.inr ⟨.inr hbk,rfl⟩) q1 q2 q3 q4
                     dsimp only at q7
                     cases hcl:Ac c.most (ld+x) (least+vQ c.text p1 extra) S.out with
                     | error q =>
                       rw[hcl]at q7
                       obtain⟨e',q'⟩:=zq q5 (wa ll) (wa dl) (by rw[q7.1];exact q7.2)
                       exact⟨e',h6,ov6,S6,.inr (tG step q'),q5,frs.trans q6,q7⟩
                     | ok o =>
                       rw[hcl]at q7
                       dsimp only at q7
                       subst q7
                       obtain⟨e',h',ov',S',r1,r2,r3,r4⟩:=Aj ll dl hll hdl k _ h6 ov6 q5 he (by dsimp only;omega)
                       refine⟨e',h',ov',S', ?_,r2,(frs.trans q6).trans r3,r4⟩
                       rcases r1 with r1|r1
                       · exact .inl (tG step r1)
                       · exact .inr (tG step r1)
                 · rw[if_neg (fun q=>hp2 q.1)]
                   have he4:S4.e=700:=by rw[hS4,wv,if_neg hp2];simp [vX,he]
                   obtain⟨e6,q6,q7,q8,q9⟩:=z8 v2 (wa ll) (wa dl) (least+vQ c.text p1 extra) (ld+x) 0 (.inr ⟨by omega,by rw[he4];decide⟩)
                   have step:=toLoop h4 e6 h4 (.inr ⟨.inl (by rw[he4];decide),rfl⟩) q6 q7 q8 q9
                   obtain⟨e',q⟩:=zq v2 (wa ll) (wa dl) (by rw[he4];decide)
                   exact⟨e',h4,ov,_,.inr (tG step q),v2,frs,he4,by decide⟩
           · have eg:wv c extra {S with at_:=p1}=(0,{S with at_:=p1,e:=700}):=by rw[wv,if_neg hp,vX,if_pos he]
             rw[eg]at k1 k2
             dsimp only at k1 k2
             rw[if_neg hp]
             have gf2:=k2.gf
             have w1:IntKind.wrap .i64 ((least:Int)+((0:Nat):Int))=((least:Nat):Int):=by
              rw[show(least:Int)+((0:Nat):Int)=((least:Nat):Int)by omega];exact vK (by omega)
             have n7:((700:Int) !=0)=true:=rfl
             refine⟨[(0,.aC c.f 0),(1,wa ll),(2,wa dl),(10,I least),(58,.bool true)],h2,ov,_,.inl (uc ?_),k2,s3.trans k3,rfl,by decide⟩
             simp only[I,Ar]at *
             simp only[AP.f20L1,go_sem,gf,s1,gf1,c256,W8 c1,lo,n0,k1,w1,gf2,n7]
theorem FM {c:FC} {S:SS} {h:H} {ov:AV} (ll dl:List Int) (hll:ll.length<1000) (hdl:dl.length<1000) (st:Ft c S h ov) (he:S.e=0):
 ∃h' ov' S',aS AP.A 20 [.aC c.f 0,wa ll,wa dl] h=some (.bP [],h')∧Ft c S' h' ov'∧FF c h ov h' ov'∧Fin (yu c.text c.most ll dl (8* c.text.size+1) S.at_ S.out) S':=by
 obtain⟨e',h',ov',S',q1,q2,q3,q4⟩:=Aj ll dl hll hdl (8* c.text.size+1) S h ov st he (by omega)
 refine⟨h',ov',S', ?_,q2,q3,q4⟩
 rcases q1 with q1|q1
 · refine tT (fn:=AP.f20) (e:=e') (vs:=[]) rfl rfl rfl ?_ rfl
   simp only[AP.f20,go_sem,sF,q1]
 · refine wC (fn:=AP.f20) (e:=[]) (vs:=[]) rfl rfl rfl ?_ rfl
   simp only[AP.f20,go_sem,sF,q1]
theorem Kf (h:H):aS AP.A 32 [] h=some (wB wy,h):=by
 have b:aZ [] (.cT 1 19 [.int .i64 0] [(0,(.c (.int .i64 16))),(1,(.c (.int .i64 17))),(2,(.c (.int .i64 18))),(3,(.c (.int .i64 0))),(4,(.c (.int .i64 8))),(5,(.c (.int .i64 7))),(6,(.c (.int .i64 9))),(7,(.c (.int .i64 6))),(8,(.c (.int .i64 10))),(9,(.c (.int .i64 5))),(10,(.c (.int .i64 11))),(11,(.c (.int .i64 4))),(12,(.c (.int .i64 12))),(13,(.c (.int .i64 3))),(14,(.c (.int .i64 13))),(15,(.c (.int .i64 2))),(16,(.c (.int .i64 14))),(17,(.c (.int .i64 1))),(18,(.c (.int .i64 15)))])=some (ints wy,fun i=>.aD i 0 19 1):=rfl
 refine uo (fn:=AP.f32) (h2:=h.dY.alloc (ints wy)) (e:=[(0,.aD h.next 0 19 1)]) (vs:=[.aD h.next 0 19 1]) rfl rfl rfl ?_ rfl ?_
 · have hn:h.dY.next=h.next:=rfl
   simp only[AP.f32,go_sem,b,hn]
 · show snap (h.dY.alloc (ints wy)).get h.next 16 true (.aD h.next 0 19 1)=_
   unfold snap
   rw[if_neg (by omega),H.aX,if_pos (show h.next=h.dY.next from rfl),uZ,if_pos (by decide)]
   rw[show((ints wy).drop 0).take (19* 1)=ints wy from rfl,xU];rfl
theorem xV {h:H} {v:AV} {l:List Int} {fl:Nat} (o:nC h v (ints l)) (hf:fl≤h.floor) (hl:l≠[]):snap h.get fl 16 true v=some (wB l):=by
 rcases o with ⟨_,q⟩|⟨id,rfl,q,h2,_⟩
 · exact absurd (List.map_eq_nil_iff.1 q) hl
 · unfold snap
   rw[if_neg (by omega),q,uZ,if_pos (by omega)]
   rw[Xf,XD,List.take_length,xU]
   simp [wB]
def fixF (i:Nat):Int:=if 144≤i∧i<256 then 9 else if 256≤i∧i<280 then 7 else 8
theorem Cd : ∀ (m i : Nat) (h : H) (v : AV), i + m = 288 → nC h v (ints ((List.range i).map fixF)) → h.floor ≤ h.next →
 ∃e' h' v',Lp AP.A [1,2] AP.f22L0 [(1,v),(2,I i)] h=some (.exit 0,e',h')∧look e' 1=v'∧nC h' v' (ints ((List.range 288).map fixF))∧h'.floor=h.floor
 | 0, i, h, v, hm, o, hf => by
   obtain rfl:i=288:=by omega
   refine⟨[(1,v),(2,I 288),(5,.bool false)],h,v,tF ?_,rfl,o,rfl⟩
   have c1:¬(((288:Nat):Int)<288):=by omega
   simp only[I]at *
   simp only[AP.f22L0,go_sem,W8 c1]
   rfl
 | m + 1, i, h, v, hm, o, hf => by
   have c1:(i:Int)<288:=by omega
   have w1:IntKind.wrap .i64 ((i:Int)+1)=((i+1:Nat):Int):=vK (n:=i+1) (by omega)
   obtain⟨g,hg⟩:∃g,g=h.alloc [I (fixF i)]:=⟨_,rfl⟩
   have og:nC g v (ints ((List.range i).map fixF)):=o.mono (by rw[hg];simp) fun j hj=>by have:=o.lt hj;rw[hg,H.aX,if_neg (by omega)]
   have hgf:g.floor≤g.next:=by rw[hg];simp;omega
   obtain⟨v',h2,r1,r2,r3,r4,r5,r6⟩:=og.app hgf (z:=8) (I (fixF i)) rfl (by simp [roomy];omega)
   have src:aT g 1 (.aD h.next 0 1 1)=some (1,[I (fixF i)]):=by simp [aT,hg,H.aX]
   have ap:kR g 1 8 v (.aD h.next 0 1 1)=some (v',h2):=by unfold kR;rw[src,uZ];exact r1
   have bt:∀e:Env,look e 21=.int .i64 (fixF i)→aZ e (.cT 1 1 [.int .i64 0] [(0,.t 21)])=some ([.int .i64 (fixF i)],fun i=>.aD i 0 1 1):=by
    intro e q;simp only[aZ,Xk,Xx,sH,q];rfl
   have hr:ints ((List.range i).map fixF)++[I (fixF i)]=ints ((List.range (i+1)).map fixF):=by
    rw[List.range_succ,Xo,pO];rfl
   rw[hr]at r2
   have step:aM (aS AP.A) bB AP.f22L0 (ax [(1,v),(2,I i)] [1,2]) h=some (.normal,[(1,v'),(2,I (i+1:Nat))],h2):=by
    clear hr
    by_cases q1:144≤i
    · have d1:(144:Int)≤i:=by omega
      by_cases q2:i<256
      · have d2:(i:Int)<256:=by omega
        have hx:fixF i=9:=by rw[fixF,if_pos ⟨q1,q2⟩]
        rw[hx]at hg bt
        simp only[I]at *
        simp only[AP.f22L0,go_sem,Xb c1,Xb d1,Xb d2]
        rw[bt _ rfl]
        simp only[go_sem,←hg,ap,w1]
      · have d2:¬(i:Int)<256:=by omega
        have d3:(256:Int)≤i:=by omega
        by_cases q3:i<280
        · have d4:(i:Int)<280:=by omega
          have hx:fixF i=7:=by rw[fixF,if_neg (by omega),if_pos ⟨by omega,q3⟩]
          rw[hx]at hg bt
          simp only[I]at *
          simp only[AP.f22L0,go_sem,Xb c1,Xb d1,W8 d2,Xb d3,Xb d4]
          rw[bt _ rfl]
          simp only[go_sem,←hg,ap,w1]
        · have d4:¬(i:Int)<280:=by omega
          have hx:fixF i=8:=by rw[fixF,if_neg (by omega),if_neg (by omega)]
          rw[hx]at hg bt
          simp only[I]at *
          simp only[AP.f22L0,go_sem,Xb c1,Xb d1,W8 d2,Xb d3,W8 d4]
          rw[bt _ rfl]
          simp only[go_sem,←hg,ap,w1]
    · have d1:¬(144:Int)≤i:=by omega
      have d3:¬(256:Int)≤i:=by omega
      have hx:fixF i=8:=by rw[fixF,if_neg (by omega),if_neg (by omega)]
      rw[hx]at hg bt
      simp only[I]at *
      simp only[AP.f22L0,go_sem,Xb c1,W8 d1,W8 d3]
      rw[bt _ rfl]
      simp only[go_sem,←hg,ap,w1]
   obtain⟨e',h',v2,s1,s2,s3,s4⟩:=Cd m (i+1) h2 v' (by omega) r2 (by rw[r3];exact vD hgf r4)
   exact⟨e',h',v2,tG step s1,s2,s3,by rw[s4,r3,hg];simp⟩
theorem IM:(List.range 288).map fixF=xr:=by decide+kernel
theorem JP (h:H):aS AP.A 22 [] h=some (wB xr,h):=by
 obtain⟨e',h',v',s1,s2,s3,s4⟩:=Cd 288 0 h.dY .aQ rfl (.inl ⟨rfl,rfl⟩) (u6 _)
 have s1':Lp AP.A [1,2] AP.f22L0 [(1,.aQ),(2,I 0)] h.dY=some (.exit 0,e',h'):=s1
 clear s1
 rw[IM]at s3
 refine uo (fn:=AP.f22) (h2:=h') (e:=[(0,v')]) (vs:=[v']) rfl rfl rfl ?_ rfl ?_
 · simp only[I]at *
   simp only[AP.f22,go_sem,sF,s1',s2]
 · exact xV s3 (by rw[s4];exact u6 _) (by intro e;have:=Xy List.length e;rw[zh]at this;simp at this)
theorem C7 (id : Nat) : ∀ (m i : Nat) (h : H), i + m = 30 → h.get id = some (ints (List.replicate i 5 ++ List.replicate m 0)) → h.floor ≤ id →
 ∃e' h',Lp AP.A [1,2] AP.f23L0 [(1,.aD id 0 30 1),(2,I i)] h=some (.exit 0,e',h')∧look e' 1=.aD id 0 30 1∧h'.get id=some (ints (List.replicate 30 5))∧h'.floor=h.floor
 | 0, i, h, hm, hg, hf => by
   obtain rfl:i=30:=by omega
   refine⟨[(1,.aD id 0 30 1),(2,I 30),(5,.bool false)],h,tF ?_,rfl,hg,rfl⟩
   have c1:¬(((30:Nat):Int)<30):=by omega
   simp only[I]at *
   simp only[AP.f23L0,go_sem,W8 c1]
   rfl
 | m + 1, i, h, hm, hg, hf => by
   have c1:(i:Int)<30:=by omega
   have w1:IntKind.wrap .i64 ((i:Int)+1)=((i+1:Nat):Int):=vK (n:=i+1) (by omega)
   have ia:fV 1 (.aD id 0 30 1) (I i)=some (.aC id i):=by simp [fV,kE (show i<30 by omega)]
   have hset:(ints (List.replicate i 5++List.replicate (m+1) 0)).set i (I 5)=ints (List.replicate (i+1) 5++List.replicate m 0):=by
    have h1:(List.replicate i (5:Int)++List.replicate (m+1) 0).set i 5=List.replicate (i+1) 5++List.replicate m 0:=by
     rw[List.set_append_right _ _ (by simp),Xu,Nat.sub_self,List.replicate_succ,List.set_cons_zero,List.replicate_succ',XF];rfl
    rw[←h1];simp [ints,List.map_set]
   have hst:ur h id i 1 [I 5] (some (ints (List.replicate i 5++List.replicate (m+1) 0)))=some (h.set id (ints (List.replicate (i+1) 5++List.replicate m 0))):=by
    rw[uK hf (by rw[pP];simp) rfl,hset]
   have step:aM (aS AP.A) bB AP.f23L0 (ax [(1,.aD id 0 30 1),(2,I i)] [1,2]) h=some (.normal,[(1,.aD id 0 30 1),(2,I (i+1:Nat))],h.set id (ints (List.replicate (i+1) 5++List.replicate m 0))):=by
    clear hset
    generalize ints (List.replicate (i+1) 5++List.replicate m 0)=L1 at *
    generalize ints (List.replicate i 5++List.replicate (m+1) 0)=L0 at *
    simp only[I]at *
    simp only[AP.f23L0,go_sem,Xb c1,ia,hg,hst,w1]
   obtain⟨e',h',s1,s2,s3,s4⟩:=C7 id m (i+1) _ (by omega) (by rw[H.dF,if_pos rfl,hg];rfl) (by simpa using hf)
   exact⟨e',h',tG step s1,s2,s3,by rw[s4];simp⟩
theorem Lr (h:H):aS AP.A 23 [] h=some (wB (List.replicate 30 5),h):=by
 obtain⟨h1,hh1⟩:∃g,g=h.dY.alloc (ints (List.replicate 30 0)):=⟨_,rfl⟩
 have hg:h1.get h.next=some (ints (List.replicate 0 5++List.replicate 30 0)):=by rw[hh1,H.aX,if_pos (show h.next=h.dY.next from rfl)];rfl
 obtain⟨e',h',s1,s2,s3,s4⟩:=C7 h.next 30 0 h1 rfl hg (by rw[hh1];simp)
 have s1':Lp AP.A [1,2] AP.f23L0 [(1,.aD h.next 0 30 1),(2,I 0)] h1=some (.exit 0,e',h'):=s1
 clear s1
 have bt:∀e:Env,aZ e (.ja 1 8 [.int .i64 0] (.c (.int .i64 30)) (.c (.int .i64 30)))=some (ints (List.replicate 30 0),fun i=>.aD i 0 30 1):=fun _=>rfl
 have hn:h.dY.next=h.next:=rfl
 refine uo (fn:=AP.f23) (h2:=h') (e:=[(0,.aD h.next 0 30 1)]) (vs:=[.aD h.next 0 30 1]) rfl rfl rfl ?_ rfl ?_
 · simp only[I]at *
   simp only[AP.f23,go_sem,bt,←hh1,hn,sF,s1',s2]
 · exact xV (l:=List.replicate 30 5) (.inr ⟨h.next,rfl,s3,by rw[s4,hh1];simp,by decide⟩) (by rw[s4,hh1];simp) (by decide)
theorem Ec {x:AV} {l:List Int} (hl:l.length<100000) (h:H) (rd:Rd h x (ints l)):∀(q p:List Int),l=p++q→
 (∃e',Lp AP.A [0,3] AP.f67L0 [(0,x),(3,I p.length)] h=some (.exit 0,e',h)∧(ints q).any AJ=false)∨(∃e',Lp AP.A [0,3] AP.f67L0 [(0,x),(3,I p.length)] h=some (.ret,e',h)∧look e' 2=.bool false∧(ints q).any AJ=true)
 | [], p, hp => by
   have ln:=rd.len
   rw[pP]at ln
   left
   refine⟨[(0,x),(3,I p.length),(15,.bool false)],tF ?_,rfl⟩
   have c1:¬(p.length:Int)<(l.length:Int):=by rw[hp];simp
   simp only[I]at *
   simp only[AP.f67L0,go_sem,ln,W8 c1]
 | y :: q, p, hp => by
   have ln:=rd.len
   rw[pP]at ln
   have hlen:l.length=p.length+(q.length+1):=by rw[hp];simp
   have c1:(p.length:Int)<(l.length:Int):=by omega
   have hv:(ints l)[p.length]?=some (I y):=te (by rw[hp];simp)
   obtain⟨ad,p1,p2⟩:=rd.elem hv
   have p3:=p2 h (fun _ _ q=>q)
   have w1:IntKind.wrap .i64 ((p.length:Int)+1)=(((p++[y]).length:Nat):Int):=by
    rw[vF];exact vK (n:=p.length+1) (by omega)
   have hany:(ints (y::q)).any AJ=(AJ (I y)||(ints q).any AJ):=rfl
   rw[hany]
   by_cases d1:y<0
   · right
     refine⟨[(2,.bool false)],uc ?_,rfl,by simp [AJ,I,d1]⟩
     simp only[I]at *
     simp only[AP.f67L0,go_sem,ln,Xb c1,p1,p3,Xb d1]
   by_cases d2:15<y
   · right
     refine⟨[(2,.bool false)],uc ?_,rfl,by simp [AJ,I,d2]⟩
     simp only[I]at *
     simp only[AP.f67L0,go_sem,ln,Xb c1,p1,p3,W8 d1,Xb d2]
   have hb:AJ (I y)=false:=by simp [AJ,I];omega
   have step:aM (aS AP.A) bB AP.f67L0 (ax [(0,x),(3,I p.length)] [0,3]) h=some (.normal,[(0,x),(3,I (p++[y]).length)],h):=by
    clear hany hb
    generalize (p++[y]).length=B at *
    simp only[I]at *
    simp only[AP.f67L0,go_sem,ln,Xb c1,p1,p3,W8 d1,W8 d2,w1]
   rw[hb,Bool.false_or]
   rcases Ec hl h rd q (p++[y]) (by rw[hp];simp)with ⟨e',r1,r2⟩|⟨e',r1,r2,r3⟩
   · exact .inl ⟨e',tG step r1,r2⟩
   · exact .inr ⟨e',tG step r1,r2,r3⟩
theorem RQ (h:H) (x:AV) (l:List Int) (hl:l.length<100000) (rd:Rd h x (ints l)):aS AP.A 67 [x] h=some (.bool (Cr l),h):=by
 have rd':=rd.mono (wg h)
 have ln:=rd.len
 rw[pP]at ln
 unfold Cr
 by_cases c1:l.length<1
 · refine uo (fn:=AP.f67) (h2:=h.dY) (e:=[(2,.bool false)]) rfl rfl rfl ?_ rfl (by rw[W8 (show¬1≤l.length by omega)];rfl)
   have c1':(l.length:Int)<1:=by omega
   simp only[I]at *
   simp only[AP.f67,go_sem,ln,Xb c1']
 have c1':¬(l.length:Int)<1:=by omega
 by_cases c2:288<l.length
 · refine uo (fn:=AP.f67) (h2:=h.dY) (e:=[(2,.bool false)]) rfl rfl rfl ?_ rfl (by rw[W8 (show¬l.length≤288 by omega),Xi];rfl)
   have c2':(288:Int)<(l.length:Int):=by omega
   simp only[I]at *
   simp only[AP.f67,go_sem,ln,W8 c1',Xb c2']
 have c2':¬(288:Int)<(l.length:Int):=by omega
 rw[Xb (show 1≤l.length by omega),Xb (show l.length≤288 by omega)]
 rcases Ec hl h.dY rd' l [] rfl with ⟨e',r1,r2⟩|⟨e',r1,r2,r3⟩
 · have r1':Lp AP.A [0,3] AP.f67L0 [(0,x),(3,I 0)] h.dY=some (.exit 0,e',h.dY):=r1
   clear r1
   rw[r2]
   refine uo (fn:=AP.f67) (h2:=h.dY) (e:=[(2,.bool true)]) rfl rfl rfl ?_ rfl rfl
   simp only[I]at *
   simp only[AP.f67,go_sem,ln,W8 c1',W8 c2',sF,r1']
 · have r1':Lp AP.A [0,3] AP.f67L0 [(0,x),(3,I 0)] h.dY=some (.ret,e',h.dY):=r1
   clear r1
   rw[r3]
   refine uo (fn:=AP.f67) (h2:=h.dY) (e:=e') (vs:=[.bool false]) rfl rfl rfl ?_ (by simp only[AP.f67,cM,nk,r2];rfl) rfl
   simp only[I]at *
   simp only[AP.f67,go_sem,ln,W8 c1',W8 c2',sF,r1']
theorem Dd (p:List Int) (x:Int):∀n:Nat,wE (p++[x]) n=wE p n-(if 1≤x∧x≤n then 2^(n-x.toNat)else 0)
 | 0 => by
   rw[if_neg (by omega)];simp [wE]
 | n + 1 => by
   have e1:wE (p++[x]) (n+1)=wE (p++[x]) n* 2-yN (p++[x]) (n+1):=rfl
   have e2:wE p (n+1)=wE p n* 2-yN p (n+1):=rfl
   rw[e1,e2,Dd p x n,Bi]
   by_cases h1:x=((n+1:Nat):Int)
   · rw[if_neg (by omega),if_pos ⟨by omega,h1⟩,if_pos (by omega)]
     rw[show n+1-x.toNat=0 by omega];simp;omega
   · rw[if_neg (show¬(n+1≠0∧x=((n+1:Nat):Int))from fun q=>h1 q.2)]
     by_cases h2:1≤x∧x≤(n:Int)
     · rw[if_pos h2,if_pos (by omega),show n+1-x.toNat=(n-x.toNat)+1 by omega,Int.pow_succ];omega
     · rw[if_neg h2,if_neg (by omega)];omega
theorem Er {x : AV} {l : List Int} (hl : l.length < 100000) (hr : yg l) (h : H) (rd : Rd h x (ints l)) : ∀ (q p : List Int), l = p ++ q →
 ∃e',Lp AP.A [0,3,4] AP.f68L0 [(0,x),(3,I (32768-wE p 15)),(4,I p.length)] h=some (.exit 0,e',h)∧look e' 3=I (32768-wE l 15)
 | [], p, hp => by
   rw[Xe]at hp;subst hp
   have ln:=rd.len
   rw[pP]at ln
   refine⟨[(0,x),(3,I (32768-wE l 15)),(4,I l.length),(8,.bool false)],tF ?_,rfl⟩
   have c1:¬(l.length:Int)<(l.length:Int):=by omega
   simp only[I]at *
   simp only[AP.f68L0,go_sem,ln,W8 c1]
 | y :: q, p, hp => by
   have ln:=rd.len
   rw[pP]at ln
   have hlen:l.length=p.length+(q.length+1):=by rw[hp];simp
   have c1:(p.length:Int)<(l.length:Int):=by omega
   have hv:(ints l)[p.length]?=some (I y):=te (by rw[hp];simp)
   have hy:=hr y (by rw[hp];simp)
   obtain⟨ad,p1,p2⟩:=rd.elem hv
   have p3:=p2 h (fun _ _ q=>q)
   have w1:IntKind.wrap .i64 ((p.length:Int)+1)=(((p++[y]).length:Nat):Int):=by
    rw[vF];exact vK (n:=p.length+1) (by omega)
   have hsn:=Dd p y 15
   have hbd:=FX (show p.length<100000 by omega) 15
   have step:aM (aS AP.A) bB AP.f68L0 (ax [(0,x),(3,I (32768-wE p 15)),(4,I p.length)] [0,3,4]) h=some (.normal,[(0,x),(3,I (32768-wE (p++[y]) 15)),(4,I (p++[y]).length)],h):=by
    by_cases d1:0<y
    · obtain⟨yn,hyn⟩:∃n:Nat,y=n:=Xs hy.1
      subst hyn
      rw[if_pos (by omega),XC]at hsn
      have w2:IntKind.wrap .i64 (15-(yn:Int))=((15-yn:Nat):Int):=by rw[show 15-(yn:Int)=((15-yn:Nat):Int)by omega];exact vK (by omega)
      have hp15:2^(15-yn)≤2^15:=Xn (by omega) (by omega)
      have s1:px .shl .i64 1 ((15-yn:Nat):Int)=some (.int .i64 ((2^(15-yn):Nat):Int)):=by
       have:=yZ (a:=1) (s:=15-yn) (by omega) (by omega)
       rw[Nat.one_mul]at this;exact this
      have hpc:((2^(15-yn):Nat):Int)=2^(15-yn):=by simp
      have hpos:(0:Int)≤2^(15-yn):=Int.pow_nonneg (by omega)
      have w3:IntKind.wrap .i64 (32768-wE p 15+((2^(15-yn):Nat):Int))=32768-wE (p++[(yn:Int)]) 15:=by
       rw[show 32768-wE p 15+((2^(15-yn):Nat):Int)=32768-wE (p++[(yn:Int)]) 15 by rw[hsn,hpc];omega]
       refine tZ ?_ ?_
       · rw[hsn];rw[←hpc];omega
       · rw[hsn];rw[←hpc];omega
      clear hsn hpc hbd hp15
      generalize (p++[(yn:Int)]).length=B at *
      generalize wE (p++[(yn:Int)]) 15=L2 at *
      generalize wE p 15=L1 at *
      generalize 2^(15-yn)=PW at *
      simp only[I]at *
      simp only[AP.f68L0,go_sem,ln,Xb c1,p1,p3,Xb d1,w2,s1,w3,w1]
    · rw[if_neg (by omega),Int.sub_zero]at hsn
      rw[hsn]
      clear hsn hbd
      generalize (p++[y]).length=B at *
      simp only[I]at *
      simp only[AP.f68L0,go_sem,ln,Xb c1,p1,p3,W8 d1,w1]
   obtain⟨e',r1,r2⟩:=Er hl hr h rd q (p++[y]) (by rw[hp];simp)
   exact⟨e',tG step r1,r2⟩
theorem Sa (h:H) (x:AV) (l:List Int) (hl:l.length<100000) (hr:yg l) (rd:Rd h x (ints l)):aS AP.A 68 [x] h=some (I (32768-wE l 15),h):=by
 obtain⟨e',r1,r2⟩:=Er hl hr h.dY (rd.mono (wg h)) l [] rfl
 have r1':Lp AP.A [0,3,4] AP.f68L0 [(0,x),(3,I 0),(4,I 0)] h.dY=some (.exit 0,e',h.dY):=r1
 clear r1
 refine uo (fn:=AP.f68) (h2:=h.dY) (e:=[(2,I (32768-wE l 15))]) rfl rfl rfl ?_ rfl rfl
 simp only[I]at *
 simp only[AP.f68,go_sem,sF,r1',r2]
theorem CT (h : H) (x : AV) (l : List Int) (hl : l.length < 100000) (rd : Rd h x (ints l)) : aS AP.A 52 [x] h = some (I (wK l), h) := by
 have rd':=rd.mono (wg h)
 have k1:=RQ h.dY x l hl rd'
 unfold wK
 by_cases hm:Cr l=true
 · have k2:=Sa h.dY x l hl (Ei hm) rd'
   rw[hm]at k1 ⊢
   rw[if_neg (by decide)]
   by_cases c1:wE l 15<0
   · rw[if_pos c1]
     have d1:32768<32768-wE l 15:=by omega
     refine uo (fn:=AP.f52) (h2:=h.dY) (e:=[(2,I 301)]) rfl rfl rfl ?_ rfl rfl
     simp only[I]at *
     simp only[AP.f52,go_sem,k1,k2,Xb d1]
   · rw[if_neg c1]
     have d1:¬32768<32768-wE l 15:=by omega
     by_cases c2:0<wE l 15
     · rw[if_pos c2]
       have d2:32768-wE l 15<32768:=by omega
       refine uo (fn:=AP.f52) (h2:=h.dY) (e:=[(2,I 302)]) rfl rfl rfl ?_ rfl rfl
       simp only[I]at *
       simp only[AP.f52,go_sem,k1,k2,W8 d1,Xb d2]
     · rw[if_neg c2]
       have d2:¬32768-wE l 15<32768:=by omega
       refine uo (fn:=AP.f52) (h2:=h.dY) (e:=[(2,I 0)]) rfl rfl rfl ?_ rfl rfl
       simp only[I]at *
       simp only[AP.f52,go_sem,k1,k2,W8 d1,W8 d2]
 · have hm':Cr l=false:=by simpa using hm
   rw[hm']at k1 ⊢
   rw[if_pos rfl]
   refine uo (fn:=AP.f52) (h2:=h.dY) (e:=[(2,I 300)]) rfl rfl rfl ?_ rfl rfl
   simp only[I]at *
   simp only[AP.f52,go_sem,k1]
theorem Ap {x : AV} {l : List Int} (hl : l.length < 100000) (hr : yg l) (h : H) (rd : Rd h x (ints l)) : ∀ (q p : List Int) (m b s : Int), l = p ++ q → 0 ≤ m → m ≤ p.length → m ≤ s → (m = 0 → s = 0) → (m = 1 → b = s) →
 ∃e' m' b',Lp AP.A [0,3,4,5] AP.f54L0 [(0,x),(3,I m),(4,I b),(5,I p.length)] h=some (.exit 0,e',h)∧look e' 3=I m'∧look e' 4=I b'∧0≤m'∧m'≤Hg q s∧(m'=0→Hg q s=0)∧(m'=1→b'=Hg q s)
 | [], p, m, b, s, hp, h1, h2, h3, h4, h5 => by
   have ln:=rd.len
   rw[pP]at ln
   refine⟨[(0,x),(3,I m),(4,I b),(5,I p.length),(9,.bool false)],m,b,tF ?_,rfl,rfl,h1,h3,h4,h5⟩
   have c1:¬(p.length:Int)<(l.length:Int):=by rw[hp];simp
   simp only[I]at *
   simp only[AP.f54L0,go_sem,ln,W8 c1]
 | y :: q, p, m, b, s, hp, h1, h2, h3, h4, h5 => by
   have ln:=rd.len
   rw[pP]at ln
   have hlen:l.length=p.length+(q.length+1):=by rw[hp];simp
   have c1:(p.length:Int)<(l.length:Int):=by omega
   have hv:(ints l)[p.length]?=some (I y):=te (by rw[hp];simp)
   have hy:=hr y (by rw[hp];simp)
   obtain⟨ad,p1,p2⟩:=rd.elem hv
   have p3:=p2 h (fun _ _ q=>q)
   have w1:IntKind.wrap .i64 ((p.length:Int)+1)=(((p++[y]).length:Nat):Int):=by
    rw[vF];exact vK (n:=p.length+1) (by omega)
   by_cases d1:0<y
   · have w2:IntKind.wrap .i64 (m+1)=m+1:=tZ (by omega) (by omega)
     have step:aM (aS AP.A) bB AP.f54L0 (ax [(0,x),(3,I m),(4,I b),(5,I p.length)] [0,3,4,5]) h=some (.normal,[(0,x),(3,I (m+1)),(4,I y),(5,I (p++[y]).length)],h):=by
      generalize hB:(p++[y]).length=B at *
      simp only[I]at *
      simp only[AP.f54L0,go_sem,ln,Xb c1,p1,p3,Xb d1,w2,w1]
     obtain⟨e',m',b',r1,r2⟩:=Ap hl hr h rd q (p++[y]) (m+1) y (s+y) (by rw[hp];simp) (by omega) (by simp;omega) (by omega) (by omega) (by intro e;have:=h4 (by omega);omega)
     exact⟨e',m',b',tG step r1,r2⟩
   · have hy0:y=0:=by omega
     have step:aM (aS AP.A) bB AP.f54L0 (ax [(0,x),(3,I m),(4,I b),(5,I p.length)] [0,3,4,5]) h=some (.normal,[(0,x),(3,I m),(4,I b),(5,I (p++[y]).length)],h):=by
      generalize hB:(p++[y]).length=B at *
      simp only[I]at *
      simp only[AP.f54L0,go_sem,ln,Xb c1,p1,p3,W8 d1,w1]
     obtain⟨e',m',b',r1,r2⟩:=Ap hl hr h rd q (p++[y]) m b (s+y) (by rw[hp];simp) h1 (by simp;omega) (by omega) (by intro e;have:=h4 e;omega) (by intro e;have:=h5 e;omega)
     exact⟨e',m',b',tG step r1,r2⟩
theorem KF (h:H) (x:AV) (l:List Int) (hl:l.length<100000) (hr:yg l) (rd:Rd h x (ints l)):aS AP.A 54 [x] h=some (.bool (xz l),h):=by
 obtain⟨e',m',b',r1,r2,r3,r4,r5,r6,r7⟩:=Ap hl hr h.dY (rd.mono (wg h)) l [] 0 0 0 rfl (by omega) (by simp) (by omega) (by intro _;rfl) (by omega)
 have r1':Lp AP.A [0,3,4,5] AP.f54L0 [(0,x),(3,I 0),(4,I 0),(5,I 0)] h.dY=some (.exit 0,e',h.dY):=r1
 clear r1
 refine uo (fn:=AP.f54) (h2:=h.dY) (e:=[(2,.bool (xz l))]) rfl rfl rfl ?_ rfl rfl
 unfold xz
 generalize Hg l 0=s at *
 by_cases c0:m'=0
 · have d0:=uy c0
   have hs:s≤1:=by have:=r6 c0;omega
   rw[Xb hs]
   simp only[I]at *
   simp only[AP.f54,go_sem,sF,r1',r2,r3,d0]
 have d0:=ux c0
 by_cases c1:m'=1
 · have d1:=uy c1
   have hb:=r7 c1
   by_cases c2:b'=1
   · have d2:=uy c2
     rw[Xb (show s≤1 by omega)]
     simp only[I]at *
     simp only[AP.f54,go_sem,sF,r1',r2,r3,d0,d1,d2]
   · have d2:=ux c2
     rw[W8 (show¬s≤1 by omega)]
     simp only[I]at *
     simp only[AP.f54,go_sem,sF,r1',r2,r3,d0,d1,d2]
 · have d1:=ux c1
   rw[W8 (show¬s≤1 by omega)]
   simp only[I]at *
   simp only[AP.f54,go_sem,sF,r1',r2,r3,d0,d1]
theorem Ds {c:FC} {S:SS} {h:H} {ov:AV} (st:Ft c S h ov) (b:AV) (many times n:Int) (v:AV) (i:Int) (hs:times≤i∨(i<times∧S.e≠0)):
 ∃e',Lp AP.A [0,1,2,7,9,10,11] AP.f53L0 [(0,.aC c.f 0),(1,b),(2,I many),(7,v),(9,I times),(10,I n),(11,I i)] h=some (.exit 3,e',h)∧look e' 0=.aC c.f 0∧look e' 1=b∧look e' 2=I many∧look e' 7=v:=by
 have gf:=st.gf
 refine⟨[(0,.aC c.f 0),(1,b),(2,I many),(7,v),(9,I times),(10,I n),(11,I i),(83,.bool false)],tF ?_,rfl,rfl,rfl,rfl⟩
 rcases hs with hn|⟨hn,he⟩
 · have c1:¬i<times:=by omega
   simp only[I]at *
   simp only[AP.f53L0,go_sem,W8 c1]
 · have c2:=ux he
   simp only[I]at *
   simp only[AP.f53L0,go_sem,Xb hn,gf,c2]
theorem Ge {c:FC} (h0:H) {S:SS} {ov:AV} (he:S.e=0) (b:AV) (many:Int) (n:Int) (times:Nat) (ht:times≤1000):∀(m i:Nat) (acc:List Int) (h:H) (v:AV),i+m=times→Ft c S h ov→FF c h0 ov h ov→nC h v (ints acc)→acc.length<100000+i→(∀j,v.id?=some j→h0.next≤j)→(∀j,(j=c.f∨ov.id?=some j)→j<h0.next)→
 ∃e' h' v',Lp AP.A [0,1,2,7,9,10,11] AP.f53L0 [(0,.aC c.f 0),(1,b),(2,I many),(7,v),(9,I times),(10,I n),(11,I i)] h=some (.exit 3,e',h')∧look e' 0=.aC c.f 0∧look e' 1=b∧look e' 2=I many∧look e' 7=v'∧Ft c S h' ov∧FF c h0 ov h' ov∧nC h' v' (ints (acc++List.replicate m n))∧∀j,v'.id?=some j→h0.next≤j
 | 0, i, acc, h, v, hm, st, fr, o, hal, hid, hlo => by
   obtain⟨e',q1,q2,q3,q4,q5⟩:=Ds st b many times n v i (.inl (by omega))
   exact⟨e',h,v,q1,q2,q3,q4,q5,st,fr,by simpa using o,hid⟩
 | m + 1, i, acc, h, v, hm, st, fr, o, hal, hid, hlo => by
   have gf:=st.gf
   rw[he]at gf
   have c1:(i:Int)<times:=by omega
   have w1:IntKind.wrap .i64 ((i:Int)+1)=((i+1:Nat):Int):=vK (n:=i+1) (by omega)
   obtain⟨g,hg⟩:∃g,g=h.alloc [I n]:=⟨_,rfl⟩
   have al:=st.alloc [I n]
   rw[←hg]at al
   have og:nC g v (ints acc):=o.mono (by rw[hg];simp) fun j hj=>by have:=o.lt hj;rw[hg,H.aX,if_neg (by omega)]
   have hgf:=al.1.nx
   obtain⟨v',h2,r1,r2,r3,r4,r5,r6⟩:=og.app hgf (z:=8) (I n) rfl (by simp [roomy];omega)
   have src:aT g 1 (.aD h.next 0 1 1)=some (1,[I n]):=by simp [aT,hg,H.aX]
   have ap:kR g 1 8 v (.aD h.next 0 1 1)=some (v',h2):=by unfold kR;rw[src,uZ];exact r1
   have bt:∀e:Env,look e 87=.int .i64 n→aZ e (.cT 1 1 [.int .i64 0] [(0,.t 87)])=some ([.int .i64 n],fun i=>.aD i 0 1 1):=by
    intro e q;simp only[aZ,Xk,Xx,sH,q];rfl
   have step:aM (aS AP.A) bB AP.f53L0 (ax [(0,.aC c.f 0),(1,b),(2,I many),(7,v),(9,I times),(10,I n),(11,I i)] [0,1,2,7,9,10,11]) h=some (.normal,[(0,.aC c.f 0),(1,b),(2,I many),(7,v'),(9,I times),(10,I n),(11,I (i+1:Nat))],h2):=by
    simp only[I]at *
    simp only[AP.f53L0,go_sem,Xb c1,gf]
    rw[bt _ rfl]
    simp only[go_sem,←hg,ap,w1]
   have frg:=fr.trans al.2
   have st2:Ft c S h2 ov:=al.1.xt r3 r4 fun j hj=>r5 j (fun e=>by have:=hid j e;have:=hlo j hj;omega) (by have:=hlo j hj;have:=frg.nx;omega)
   have fr2:FF c h0 ov h2 ov:=⟨r3.trans frg.fl,vD frg.nx r4,fun id i1 i2 i4=>by rw[r5 id (fun e=>by have:=hid id e;omega) (by have:=frg.nx;omega)];exact frg.Ck id i1 i2 i4,fun j hj=>.inl hj⟩
   have hr:ints acc++[I n]=ints (acc++[n]):=by rw[pO];rfl
   rw[hr]at r2
   obtain⟨e',h',v2,s1,s2,s3,s4,s5,s6,s7,s8,s9⟩:=Ge h0 he b many n times ht m (i+1) (acc++[n]) h2 v' (by omega) st2 fr2 r2 (by simp;omega) (fun j hj=>by rw[r6]at hj;cases hj;exact frg.nx) hlo
   refine⟨e',h',v2,tG step s1,s2,s3,s4,s5,s6,s7, ?_,s9⟩
   rw[List.replicate_succ,show acc++n::List.replicate m n=acc++[n]++List.replicate m n by simp]
   exact s8
theorem AZ {c:FC} {S:SS} {h:H} {ov:AV} (st:Ft c S h ov) (b:AV) (many:Nat) {v:AV} {acc:List Int} (o:nC h v (ints acc)) (hs:many≤acc.length∨(acc.length<many∧S.e≠0)):
 ∃e',Lp AP.A [0,1,2,7] AP.f53L1 [(0,.aC c.f 0),(1,b),(2,I many),(7,v)] h=some (.exit 0,e',h)∧look e' 7=v:=by
 have gf:=st.gf
 have ln:=o.len
 rw[pP]at ln
 refine⟨[(0,.aC c.f 0),(1,b),(2,I many),(7,v),(22,.bool false)],tF ?_,rfl⟩
 rcases hs with hs|⟨hs,he⟩
 · have c1:¬(acc.length:Int)<many:=by omega
   simp only[I]at *
   simp only[AP.f53L1,go_sem,ln,W8 c1]
 · have c1:(acc.length:Int)<many:=by omega
   have c2:=ux he
   simp only[I]at *
   simp only[AP.f53L1,go_sem,ln,Xb c1,gf,c2]
theorem GS {c : FC} {S2 : SS} {h2 : H} {ov : AV} (h0 : H) (cl : List Int) (many : Nat) (hm : many ≤ 400) {v : AV} {acc : List Int} (st : Ft c S2 h2 ov) (fr : FF c h0 ov h2 ov) (o : nC h2 v (ints acc)) (hal : acc.length < many) (hid : ∀ j, v.id? = some j → h0.next ≤ j) (hlo : ∀ j, (j = c.f ∨ ov.id? = some j) → j < h0.next) (n : Int) (times : Nat) (ht : times ≤ 1000) (he2 : S2.e = 0 ∨ S2.e = 700) (code : aH)
 (hcode:code=(.seq (.seq (.o5 [⟨(some 59),.mv (.t 0),none⟩,⟨(some 60),.ou (.t 59),none⟩,⟨(some 61),.nY 4 (.t 60),none⟩,⟨(some 62),.load false 1 (.t 61),none⟩,⟨(some 63),.bin .eql (.t 62) (.c (.int .i64 0)),none⟩,⟨(some 64),.mv (.t 63),none⟩,⟨(some 65),.mv (.t 7),(some (64,true))⟩,⟨(some 66),.len false (.t 65),(some (64,true))⟩,⟨(some 67),.mv (.t 9),(some (64,true))⟩,⟨(some 68),.bin .add (.t 66) (.t 67),(some (64,true))⟩,⟨(some 69),.mv (.t 2),(some (64,true))⟩,⟨(some 70),.bin .gtr (.t 68) (.t 69),(some (64,true))⟩,⟨(some 71),.pick (.t 64) (.t 70) (.c (.bool false)),none⟩] [0,1,2,7,9,10,71]) (.cond (.t 71) (.o5 [⟨(some 72),.mv (.t 0),none⟩,⟨(some 73),.call (.c (.fn 25 [] [])) [(.t 72)],none⟩] [0,1,2,7,9,10]) (.skip) [0,1,2,7,9,10])) (.seq (.o5 [⟨(some 11),.mv (.c (.int .i64 0)),none⟩] [0,1,2,7,9,10,11]) (.block 3 (.loop [0,1,2,7,9,10,11] AP.f53L0) [0,1,2,7])))):
 ∃ h3 S3 v3, aM (aS AP.A) bB code [(0, .aC c.f 0), (1, wa cl), (2, I many), (7, v), (9, I times), (10, I n)] h2 = some (.normal, [(0, .aC c.f 0), (1, wa cl), (2, I many), (7, v3)], h3) ∧ Ft c S3 h3 ov ∧ FF c h0 ov h3 ov ∧
   ((S2.e=0∧acc.length+times≤many∧S3=S2∧nC h3 v3 (ints (acc++List.replicate times n))∧∀j,v3.id?=some j→h0.next≤j)∨((S2.e≠0∨many<acc.length+times)∧S3.e=700∧v3=v∧nC h3 v (ints acc))):=by
 have gf:=st.gf
 have ln:=o.len
 rw[pP]at ln
 subst hcode
 have w1:IntKind.wrap .i64 ((acc.length:Int)+times)=((acc.length+times:Nat):Int):=by rw[show(acc.length:Int)+times=((acc.length+times:Nat):Int)by omega];exact vK (by omega)
 by_cases he:S2.e=0
 · have ce:=uy he
   by_cases hgt:many<acc.length+times
   · have d1:(many:Int)<((acc.length+times:Nat):Int):=by omega
     obtain⟨h3,f1,f2,f3⟩:=yB st
     have he3:(vX 700 S2).e=700:=by simp [vX,he]
     have hs:(times:Int)≤0∨((0:Int)<times∧(vX 700 S2).e≠0):=by
      by_cases q:0<times
      · exact .inr ⟨by omega,by rw[he3];decide⟩
      · exact .inl (by omega)
     obtain⟨e',q1,q2,q3,q4,q5⟩:=Ds f2 (wa cl) many times n v 0 hs
     have o3:nC h3 v (ints acc):=o.mono f3.fl fun j hj=>f3.Ck j (o.lt hj) (fun e=>by have:=hid j hj;have:=hlo j (.inl e);omega) (fun e=>by have:=hid j hj;have:=hlo j (.inr e);omega)
     refine⟨h3,vX 700 S2,v, ?_,f2,fr.trans f3,.inr ⟨.inr hgt,he3,rfl,o3⟩⟩
     simp only[I]at *
     simp only[go_sem,gf,ce,ln,w1,Xb d1,f1,sF,q1,q2,q3,q4,q5]
   · have d1:¬(many:Int)<((acc.length+times:Nat):Int):=by omega
     obtain⟨e',h3,v3,q1,q2,q3,q4,q5,q6,q7,q8,q9⟩:=Ge h0 he (wa cl) many n times ht times 0 acc h2 v (by omega) st fr o (by omega) hid hlo
     have q1':Lp AP.A [0,1,2,7,9,10,11] AP.f53L0 [(0,.aC c.f 0),(1,wa cl),(2,I many),(7,v),(9,I times),(10,I n),(11,I 0)] h2=some (.exit 3,e',h3):=q1
     clear q1
     refine⟨h3,S2,v3, ?_,q6,q7,.inl ⟨he,by omega,rfl,q8,q9⟩⟩
     simp only[I]at *
     simp only[go_sem,gf,ce,ln,w1,W8 d1,sF,q1',q2,q3,q4,q5]
 · have ce:=ux he
   have he3:S2.e=700:=by rcases he2 with q|q;exact absurd q he;exact q
   have hs:(times:Int)≤0∨((0:Int)<times∧S2.e≠0):=by
    by_cases q:0<times
    · exact .inr ⟨by omega,he⟩
    · exact .inl (by omega)
   obtain⟨e',q1,q2,q3,q4,q5⟩:=Ds st (wa cl) many times n v 0 hs
   refine⟨h2,S2,v, ?_,st,fr,.inr ⟨.inl he,he3,rfl,o⟩⟩
   simp only[I]at *
   simp only[go_sem,gf,ce,ln,w1,sF,q1,q2,q3,q4,q5]
theorem C8 {c : FC} (h0 : H) (cl : List Int) (hcl : cl.length < 1000) (many : Nat) (hm : many ≤ 400) : ∀ (f : Nat) (acc : List Int) (S : SS) (h : H) (ov v : AV), Ft c S h ov → S.e = 0 → 8 * c.text.size < S.at_ + f → FF c h0 ov h ov → nC h v (ints acc) → acc.length ≤ many → (∀ j, v.id? = some j → h0.next ≤ j) → (∀ j, (j = c.f ∨ ov.id? = some j) → j < h0.next) →
 ∃ h' S', Ft c S' h' ov ∧ FF c h0 ov h' ov ∧ match wP c.text cl many f acc S.at_ with
   |some (L,p)=>S'={S with at_:=p}∧L.length=many∧∃e' v',Lp AP.A [0,1,2,7] AP.f53L1 [(0,.aC c.f 0),(1,wa cl),(2,I many),(7,v)] h=some (.exit 0,e',h')∧look e' 7=v'∧nC h' v' (ints L)∧∀j,v'.id?=some j→h0.next≤j
   |none=>S'.e=700∧((∃e' v',Lp AP.A [0,1,2,7] AP.f53L1 [(0,.aC c.f 0),(1,wa cl),(2,I many),(7,v)] h=some (.exit 0,e',h')∧look e' 7=v')∨∃e',Lp AP.A [0,1,2,7] AP.f53L1 [(0,.aC c.f 0),(1,wa cl),(2,I many),(7,v)] h=some (.ret,e',h')∧look e' 6=.aQ)
 |0,acc,S,h,ov,v,st,he,hk,fr,oa,hal,hid,hlo=>by have:=st.xE;omega
 | f + 1, acc, S, h, ov, v, st, he, hk, fr, oa, hal, hid, hlo => by
   by_cases hlt:acc.length<many
   · rw [wP, if_pos hlt]
     have gf:=st.gf
     rw[he]at gf
     have ln:=oa.len
     rw[pP]at ln
     have c1:(acc.length:Int)<many:=by omega
     obtain⟨h1,S1,y,s1,s2,s3,s4⟩:=BL cl hcl st he
     have gf1:=s2.gf
     cases hz:yD c.text cl 15 1 0 S.at_ with
     | none =>
       rw[hz]at s4
       obtain⟨s4,s5⟩:=s4
       have ce:(S1.e !=0)=true:=uA (by rw[s4];decide)
       refine⟨h1,S1,s2,fr.trans s3,s4,.inr ⟨[(6,.aQ)],uc ?_,rfl⟩⟩
       simp only[I]at *
       simp only[AP.f53L1,go_sem,ln,Xb c1,gf,s1,gf1,ce]
     | some yp =>
       obtain⟨z,p1⟩:=yp
       rw[hz]at s4
       obtain⟨s4,s5⟩:=s4
       subst s5 s4
       have zb:=yz hz
       dsimp only at gf1 ⊢
       rw[he]at gf1
       have fr1:=fr.trans s3
       have hneq:∀i,v.id?=some i→i≠c.f∧ov.id?≠some i:=fun i hi=>by
        have:=hid i hi
        exact⟨fun e=>by have:=hlo i (.inl e);omega,fun e=>by have:=hlo i (.inr e);omega⟩
       have oa1:nC h1 v (ints acc):=oa.mono s3.fl fun i hi=>s3.Ck i (oa.lt hi) (hneq i hi).1 (hneq i hi).2
       have ln1:=oa1.len
       rw[pP]at ln1
       have fin:∀(n:Int) (times:Nat) (h2:H) (S2:SS),times≤1000→Ft c S2 h2 ov→FF c h0 ov h2 ov→nC h2 v (ints acc)→(S2.e=0∨S2.e=700)→(∀code h3 v3,code=(aH.seq (.seq (.o5 [⟨(some 59),.mv (.t 0),none⟩,⟨(some 60),.ou (.t 59),none⟩,⟨(some 61),.nY 4 (.t 60),none⟩,⟨(some 62),.load false 1 (.t 61),none⟩,⟨(some 63),.bin .eql (.t 62) (.c (.int .i64 0)),none⟩,⟨(some 64),.mv (.t 63),none⟩,⟨(some 65),.mv (.t 7),(some (64,true))⟩,⟨(some 66),.len false (.t 65),(some (64,true))⟩,⟨(some 67),.mv (.t 9),(some (64,true))⟩,⟨(some 68),.bin .add (.t 66) (.t 67),(some (64,true))⟩,⟨(some 69),.mv (.t 2),(some (64,true))⟩,⟨(some 70),.bin .gtr (.t 68) (.t 69),(some (64,true))⟩,⟨(some 71),.pick (.t 64) (.t 70) (.c (.bool false)),none⟩] [0,1,2,7,9,10,71]) (.cond (.t 71) (.o5 [⟨(some 72),.mv (.t 0),none⟩,⟨(some 73),.call (.c (.fn 25 [] [])) [(.t 72)],none⟩] [0,1,2,7,9,10]) (.skip) [0,1,2,7,9,10])) (.seq (.o5 [⟨(some 11),.mv (.c (.int .i64 0)),none⟩] [0,1,2,7,9,10,11]) (.block 3 (.loop [0,1,2,7,9,10,11] AP.f53L0) [0,1,2,7])))→aM (aS AP.A) bB code [(0,.aC c.f 0),(1,wa cl),(2,I many),(7,v),(9,I times),(10,I n)] h2=some (.normal,[(0,.aC c.f 0),(1,wa cl),(2,I many),(7,v3)],h3)→
        aM (aS AP.A) bB AP.f53L1 (ax [(0,.aC c.f 0),(1,wa cl),(2,I many),(7,v)] [0,1,2,7]) h=some (.normal,[(0,.aC c.f 0),(1,wa cl),(2,I many),(7,v3)],h3))→
        (match xi c.text y acc p1 with|some q=>S2={S with at_:=q.2.2}∧n=q.1∧times=q.2.1∧p1≤q.2.2|none=>S2.e=700)→
        ∃ h' S', Ft c S' h' ov ∧ FF c h0 ov h' ov ∧ match (match xi c.text y acc p1 with | none => none | some (n, times, p2) => wP c.text cl many f (acc ++ List.replicate times n) p2) with
          |some (L,p)=>S'={S with at_:=p}∧L.length=many∧∃e' v',Lp AP.A [0,1,2,7] AP.f53L1 [(0,.aC c.f 0),(1,wa cl),(2,I many),(7,v)] h=some (.exit 0,e',h')∧look e' 7=v'∧nC h' v' (ints L)∧∀j,v'.id?=some j→h0.next≤j
          |none=>S'.e=700∧((∃e' v',Lp AP.A [0,1,2,7] AP.f53L1 [(0,.aC c.f 0),(1,wa cl),(2,I many),(7,v)] h=some (.exit 0,e',h')∧look e' 7=v')∨∃e',Lp AP.A [0,1,2,7] AP.f53L1 [(0,.aC c.f 0),(1,wa cl),(2,I many),(7,v)] h=some (.ret,e',h')∧look e' 6=.aQ):=by
        intro n times h2 S2 ht st2 fr2 o2 he2 hstep hag
        obtain⟨h3,S3,v3,t1,t2,t3,t4⟩:=GS h0 cl many hm st2 fr2 o2 hlt hid hlo n times ht he2 _ rfl
        have step:=hstep _ h3 v3 rfl t1
        cases ha:xi c.text y acc p1 with
        | none =>
          rw[ha]at hag
          dsimp only at hag ⊢
          rcases t4 with ⟨t5,_⟩|⟨_,t6,t7,t8⟩
          · rw[hag]at t5;exact absurd t5 (by decide)
          · subst t7
            obtain⟨e',q1,q2⟩:=AZ t2 (wa cl) many t8 (.inr ⟨hlt,by rw[t6];decide⟩)
            exact⟨h3,S3,t2,t3,t6,.inl ⟨e',v3,tG step q1,q2⟩⟩
        | some q =>
          obtain⟨n2,t2',p2⟩:=q
          rw[ha]at hag
          obtain⟨g1,g2,g3,g4⟩:=hag
          dsimp only at g1 g2 g3 g4 ⊢
          subst g1 g2 g3
          have hle2:=st2.xE
          dsimp only at hle2
          rcases t4 with ⟨t5,t6,t7,t8,t9⟩|⟨t5,t6,t7,t8⟩
          · subst t7
            obtain⟨h',S',r1,r2,r3⟩:=C8 h0 cl hcl many hm f (acc++List.replicate times n) _ h3 ov v3 t2 he (by dsimp only;omega) t3 t8 (by simp;omega) t9 hlo
            refine⟨h',S',r1,r2, ?_⟩
            dsimp only at r3
            cases hL:wP c.text cl many f (acc++List.replicate times n) p2 with
            | some q =>
              rw[hL]at r3
              obtain⟨r4,r5,e',v',r6,r7⟩:=r3
              exact⟨r4,r5,e',v',tG step r6,r7⟩
            | none =>
              rw[hL]at r3
              obtain⟨r4,r5⟩:=r3
              refine⟨r4, ?_⟩
              rcases r5 with ⟨e',v',r6,r7⟩|⟨e',r6,r7⟩
              · exact .inl ⟨e',v',tG step r6,r7⟩
              · exact .inr ⟨e',tG step r6,r7⟩
          · have hgt:many<acc.length+times:=by
             rcases t5 with q|q
             · exact absurd he q
             · exact q
            have hnone:wP c.text cl many f (acc++List.replicate times n) p2=none:=by
             obtain⟨f',rfl⟩:∃f',f=f'+1:=⟨f-1,by omega⟩
             rw[wP,if_neg (by simp;omega),if_pos (by simp;omega)]
            rw[hnone]
            dsimp only
            subst t7
            obtain⟨e',q1,q2⟩:=AZ t2 (wa cl) many t8 (.inr ⟨hlt,by rw[t6];decide⟩)
            exact⟨h3,S3,t2,t3,t6,.inl ⟨e',v3,tG step q1,q2⟩⟩
       have ne0:((0:Int) !=0)=false:=rfl
       by_cases h16:y=16
       · have d16:=uy h16
         by_cases hn:acc=[]
         · obtain⟨h2,f1,f2,f3⟩:=yB s2
           have hag:xi c.text y acc p1=none:=by unfold xi;rw[if_pos h16,if_pos hn]
           rw[hag]
           have hz0:((acc.length:Int)==0)=true:=by rw[hn];rfl
           refine⟨h2,_,f2,fr1.trans f3,by simp [vX,he],.inr ⟨[(6,.aQ)],uc ?_,rfl⟩⟩
           simp only[I]at *
           simp only[AP.f53L1,go_sem,ln,Xb c1,gf,s1,gf1,ne0,d16,ln1,hz0,f1]
         · have hpos:0<acc.length:=Xw.2 hn
           have hz0:((acc.length:Int)==0)=false:=ux (by omega)
           have w2:IntKind.wrap .i64 ((acc.length:Int)-1)=((acc.length-1:Nat):Int):=by
            rw[show(acc.length:Int)-1=((acc.length-1:Nat):Int)by omega];exact vK (by omega)
           have hel:=Ay (l:=acc) (i:=acc.length-1) (by omega)
           obtain⟨id,i1,i2,i3⟩:=oa1.elem hel
           obtain⟨h2,k1,k2,k3⟩:=ye s2 2 2 rfl (by omega)
           have hgl:(wv c 2 {S with at_:=p1}).1<4:=by
            unfold wv;split
            · simpa using wQ c.text p1 2
            · simp
           have w3:IntKind.wrap .i64 (3+((wv c 2 {S with at_:=p1}).1:Int))=((3+(wv c 2 {S with at_:=p1}).1:Nat):Int):=vK (n:=3+_) (by omega)
           have o2:nC h2 v (ints acc):=oa1.mono k3.fl fun i hi=>k3.Ck i (oa1.lt hi) (hneq i hi).1 (hneq i hi).2
           refine fin (acc.getD (acc.length-1) 0) (3+(wv c 2 {S with at_:=p1}).1) h2 _ (by omega) k2 (fr1.trans k3) o2 (BM c 2 _ (.inl he)) ?_ ?_
           · intro code h3 v3 hc hev
             clear fin i1
             generalize (wv c 2 {S with at_:=p1}).1=G at *
             unfold AP.f53L1
             rw[hc]at hev
             simp only[I]at *
             simp only[rZ,nE,pZ,sY,go_sem,ln,Xb c1,gf,s1,gf1,ne0,d16,ln1,hz0,w2,i2,i3,hel,k1,w3]
             simp only[rZ,nE,pZ,sY,go_sem]at hev
             simp only[hev,go_sem]
           · by_cases hp:p1+2≤8* c.text.size
             · have hag:xi c.text y acc p1=some (acc.getD (acc.length-1) 0,3+vQ c.text p1 2,p1+2):=by unfold xi;rw[if_pos h16,if_neg hn,if_pos hp]
               rw[hag]
               have eg:wv c 2 {S with at_:=p1}=(vQ c.text p1 2,{S with at_:=p1+2}):=by rw[wv,if_pos hp]
               rw[eg]
               exact⟨rfl,rfl,rfl,by show p1≤p1+2;omega⟩
             · have hag:xi c.text y acc p1=none:=by unfold xi;rw[if_pos h16,if_neg hn,if_neg hp]
               rw[hag]
               have eg:wv c 2 {S with at_:=p1}=(0,{S with at_:=p1,e:=700}):=by rw[wv,if_neg hp,vX,if_pos he]
               rw[eg]
       · have d16:=ux h16
         by_cases h17:y=17
         · have d17:=uy h17
           obtain⟨h2,k1,k2,k3⟩:=ye s2 3 3 rfl (by omega)
           have hgl:(wv c 3 {S with at_:=p1}).1<8:=by
            unfold wv;split
            · simpa using wQ c.text p1 3
            · simp
           have w3:IntKind.wrap .i64 (3+((wv c 3 {S with at_:=p1}).1:Int))=((3+(wv c 3 {S with at_:=p1}).1:Nat):Int):=vK (n:=3+_) (by omega)
           have o2:nC h2 v (ints acc):=oa1.mono k3.fl fun i hi=>k3.Ck i (oa1.lt hi) (hneq i hi).1 (hneq i hi).2
           refine fin 0 (3+(wv c 3 {S with at_:=p1}).1) h2 _ (by omega) k2 (fr1.trans k3) o2 (BM c 3 _ (.inl he)) ?_ ?_
           · intro code h3 v3 hc hev
             clear fin
             generalize (wv c 3 {S with at_:=p1}).1=G at *
             unfold AP.f53L1
             rw[hc]at hev
             simp only[I]at *
             simp only[rZ,nE,pZ,sY,go_sem,ln,Xb c1,gf,s1,gf1,ne0,d16,d17,k1,w3]
             simp only[rZ,nE,pZ,sY,go_sem]at hev
             simp only[hev,go_sem]
           · by_cases hp:p1+3≤8* c.text.size
             · have hag:xi c.text y acc p1=some (0,3+vQ c.text p1 3,p1+3):=by unfold xi;rw[if_neg h16,if_pos h17,if_pos hp]
               rw[hag]
               have eg:wv c 3 {S with at_:=p1}=(vQ c.text p1 3,{S with at_:=p1+3}):=by rw[wv,if_pos hp]
               rw[eg]
               exact⟨rfl,rfl,rfl,by show p1≤p1+3;omega⟩
             · have hag:xi c.text y acc p1=none:=by unfold xi;rw[if_neg h16,if_pos h17,if_neg hp]
               rw[hag]
               have eg:wv c 3 {S with at_:=p1}=(0,{S with at_:=p1,e:=700}):=by rw[wv,if_neg hp,vX,if_pos he]
               rw[eg]
         · have d17:=ux h17
           by_cases h18:y=18
           · have d18:=uy h18
             obtain⟨h2,k1,k2,k3⟩:=ye s2 7 7 rfl (by omega)
             have hgl:(wv c 7 {S with at_:=p1}).1<128:=by
              unfold wv;split
              · simpa using wQ c.text p1 7
              · simp
             have w3:IntKind.wrap .i64 (11+((wv c 7 {S with at_:=p1}).1:Int))=((11+(wv c 7 {S with at_:=p1}).1:Nat):Int):=vK (n:=11+_) (by omega)
             have o2:nC h2 v (ints acc):=oa1.mono k3.fl fun i hi=>k3.Ck i (oa1.lt hi) (hneq i hi).1 (hneq i hi).2
             refine fin 0 (11+(wv c 7 {S with at_:=p1}).1) h2 _ (by omega) k2 (fr1.trans k3) o2 (BM c 7 _ (.inl he)) ?_ ?_
             · intro code h3 v3 hc hev
               clear fin
               generalize (wv c 7 {S with at_:=p1}).1=G at *
               unfold AP.f53L1
               rw[hc]at hev
               simp only[I]at *
               simp only[rZ,nE,pZ,sY,go_sem,ln,Xb c1,gf,s1,gf1,ne0,d16,d17,d18,k1,w3]
               simp only[rZ,nE,pZ,sY,go_sem]at hev
               simp only[hev,go_sem]
             · by_cases hp:p1+7≤8* c.text.size
               · have hag:xi c.text y acc p1=some (0,11+vQ c.text p1 7,p1+7):=by unfold xi;rw[if_neg h16,if_neg h17,if_pos h18,if_pos hp]
                 rw[hag]
                 have eg:wv c 7 {S with at_:=p1}=(vQ c.text p1 7,{S with at_:=p1+7}):=by rw[wv,if_pos hp]
                 rw[eg]
                 exact⟨rfl,rfl,rfl,by show p1≤p1+7;omega⟩
               · have hag:xi c.text y acc p1=none:=by unfold xi;rw[if_neg h16,if_neg h17,if_pos h18,if_neg hp]
                 rw[hag]
                 have eg:wv c 7 {S with at_:=p1}=(0,{S with at_:=p1,e:=700}):=by rw[wv,if_neg hp,vX,if_pos he]
                 rw[eg]
           · have d18:=ux h18
             have hag:xi c.text y acc p1=some (y,1,p1):=by unfold xi;rw[if_neg h16,if_neg h17,if_neg h18]
             refine fin y 1 h1 _ (by omega) s2 fr1 oa1 (.inl he) ?_ (by rw[hag];exact⟨rfl,rfl,rfl,u6 _⟩)
             intro code h3 v3 hc hev
             clear fin hag
             unfold AP.f53L1
             rw[hc]at hev
             have hev':aM (aS AP.A) bB _ [(0,.aC c.f 0),(1,wa cl),(2,I many),(7,v),(9,I 1),(10,I y)] h1=_:=hev
             clear hev
             simp only[I]at *
             simp only[rZ,nE,pZ,sY,go_sem,ln,Xb c1,gf,s1,gf1,ne0,d16,d17,d18]
             simp only[rZ,nE,pZ,sY,go_sem,ln,Xb c1,gf,s1,gf1,ne0,d16,d17,d18]at hev'
             simp only[hev',go_sem]
   · have heq:acc.length=many:=by omega
     obtain⟨e',q1,q2⟩:=AZ st (wa cl) many oa (.inl (by omega))
     refine⟨h,S,st,fr, ?_⟩
     rw[wP,if_neg hlt,if_neg (by omega)]
     exact⟨rfl,heq,e',v,q1,q2,oa,hid⟩
def Fh (c:FC):SC:=⟨0,0,c.text,c.most⟩
theorem Lw (c:FC) (n:Nat) (S:SS):wv c n S=vU (Fh c) n S:=(Lv (Fh c) c rfl n S).symm
theorem D3 {c : FC} (a : Nat) (many : Nat) (hmany : many ≤ 19) (m2 m3 : AV) : ∀ (q p o : List Int) (S : SS) (h : H) (ov : AV), wy.take many = p ++ q → Ft c S h ov → ov.id? ≠ some a → a ≠ c.f → h.get a = some (ints o) → o.length = 19 → h.floor ≤ a →
 ∃ e' h', Lp AP.A [0, 2, 3, 4, 5, 6, 7] AP.f24L0 [(0, .aC c.f 0), (2, m2), (3, m3), (4, I many), (5, .aD a 0 19 1), (6, wB wy), (7, I p.length)] h = some (.exit 0, e', h') ∧ look e' 0 = .aC c.f 0 ∧ look e' 2 = m2 ∧ look e' 3 = m3 ∧ look e' 5 = .aD a 0 19 1 ∧
   Ft c (yR (Fh c) q o S).2 h' ov∧h'.get a=some (ints (yR (Fh c) q o S).1)∧h'.floor=h.floor∧h.next≤h'.next∧∀i,i<h.next→i≠c.f→ov.id?≠some i→i≠a→h'.get i=h.get i
 | [], p, o, S, h, ov, hp, st, hoa, hac, hg, ho, hf => by
   have hlen:p.length=many:=by
    have:=Xy List.length hp
    rw[List.length_take,Xe]at this
    have h2:wy.length=19:=rfl
    omega
   refine⟨[(0,.aC c.f 0),(2,m2),(3,m3),(4,I many),(5,.aD a 0 19 1),(6,wB wy),(7,I p.length),(37,.bool false)],h,tF ?_,rfl,rfl,rfl,rfl,st,hg,rfl,u6 _,fun _ _ _ _ _=>rfl⟩
   have c1:¬(p.length:Int)<(many:Int):=by omega
   simp only[I]at *
   simp only[AP.f24L0,go_sem,W8 c1]
 | s :: q, p, o, S, h, ov, hp, st, hoa, hac, hg, ho, hf => by
   have h2l:wy.length=19:=rfl
   have hlen:p.length+(q.length+1)=many:=by
    have:=Xy List.length hp
    rw[List.length_take,vF,W9]at this
    omega
   have c1:(p.length:Int)<(many:Int):=by omega
   have hsm:s∈wy:=List.mem_of_mem_take (i:=many) (by rw[hp];simp)
   have hs:=Ek s hsm
   obtain⟨sn,hsn⟩:∃n:Nat,s=n:=Xs hs.1
   subst hsn
   have hv0:wy[p.length]?=some (sn:Int):=by
    have:(wy.take many)[p.length]?=some (sn:Int):=by rw[hp];simp
    rw[vE]at this
    split at this
    · exact this
    · cases this
   have hv:(ints wy)[p.length]?=some (I sn):=te hv0
   have ia:fV 1 (wB wy) (I p.length)=some (.aL (ints wy) p.length):=by
    have:=kE (show p.length<wy.length by omega)
    simp only[fV,wB,if_true,this,uZ,vk,XD]
   obtain⟨h1,k1,k2,k3⟩:=ye st 3 3 rfl (by omega)
   rw[Lw]at k1 k2
   have hal:a<h.next:=h.lt _ _ hg
   have hg1:h1.get a=some (ints o):=by rw[k3.Ck a hal hac hoa];exact hg
   have a1:fV 1 (.aD a 0 19 1) (I sn)=some (.aC a sn):=by simp [fV,kE (show sn<19 by omega)]
   have hset:(ints o).set sn (I ((vU (Fh c) 3 S).1:Nat))=ints (o.set sn ((vU (Fh c) 3 S).1:Nat)):=by simp [ints,List.map_set]
   have hst:ur h1 a sn 1 [I ((vU (Fh c) 3 S).1:Nat)] (some (ints o))=some (h1.set a (ints (o.set sn ((vU (Fh c) 3 S).1:Nat)))):=by
    rw[uK (by rw[k3.fl];exact hf) (by rw[pP];omega) rfl,hset]
   have w2:IntKind.wrap .i64 ((p.length:Int)+1)=(((p++[(sn:Int)]).length:Nat):Int):=by
    rw[vF];exact vK (n:=p.length+1) (by omega)
   have step:aM (aS AP.A) bB AP.f24L0 (ax [(0,.aC c.f 0),(2,m2),(3,m3),(4,I many),(5,.aD a 0 19 1),(6,wB wy),(7,I p.length)] [0,2,3,4,5,6,7]) h=some (.normal,[(0,.aC c.f 0),(2,m2),(3,m3),(4,I many),(5,.aD a 0 19 1),(6,wB wy),(7,I (p++[(sn:Int)]).length)],h1.set a (ints (o.set sn ((vU (Fh c) 3 S).1:Nat)))):=by
    clear hset
    generalize ints (o.set sn ((vU (Fh c) 3 S).1:Nat))=W at *
    generalize (p++[(sn:Int)]).length=B at *
    generalize (vU (Fh c) 3 S).1=G at *
    generalize ints o=OO at *
    generalize wB wy=RO at *
    unfold AP.f24L0
    refine uH (e1:=[(0,.aC c.f 0),(2,m2),(3,m3),(4,I many),(5,.aD a 0 19 1),(6,RO),(7,I p.length)]) (h1:=h) ?_ ?_
    · simp only[I]at *
      simp only[go_sem,Xb c1]
    refine uH (e1:=[(0,.aC c.f 0),(2,m2),(3,m3),(4,I many),(5,.aD a 0 19 1),(6,RO),(7,I p.length)]) (h1:=h1.set a W) ?_ ?_
    · rw[nE,EC (e':=[(47,.aC a sn),(46,I G),(45,.aC c.f 0),(44,I sn),(43,.aL (ints wy) p.length),(42,I p.length),(41,RO),(40,.aD a 0 19 1),(0,.aC c.f 0),(2,m2),(3,m3),(4,I many),(5,.aD a 0 19 1),(6,RO),(7,I p.length)]) (h':=h1.set a W) (gs:=[h,h1,h1.set a W])]
      · simp only[go_sem]
      · simp only[I]at *
        simp only[zL,BP,BN,BS,BR,bX.aP,go_sem,ia,hv,k1,a1,hg1,hst]
      · refine zQ (fun k hk=> ?_) rfl
        obtain rfl:k=1:=by simpa using hk
        refine zP (o:=⟨some 44,.load false 1 (.t 43),none⟩) (g:=h1) (h':=h1) (d:=44) (u:=I sn) rfl rfl rfl rfl ?_ ?_
        · simp only[ai,go_sem,hv]
        · simp only[go_sem,I,Cs]
    · simp only[I]at *
      simp only[go_sem,w2]
   have st2:Ft c (vU (Fh c) 3 S).2 (h1.set a (ints (o.set sn ((vU (Fh c) 3 S).1:Nat)))) ov:=k2.xt (by simp) (by simp) fun i hi=>by
    rw[H.dF,if_neg]
    rintro rfl
    rcases hi with hi|hi
    · exact hac hi
    · exact hoa hi
   obtain⟨e',h',q1,q2,q3,q4,q5,q6,q7,q8,q9,q10⟩:=D3 a many hmany m2 m3 q (p++[(sn:Int)]) (o.set sn ((vU (Fh c) 3 S).1:Nat)) _ _ ov (by rw[hp];simp) st2 hoa hac (by rw[H.dF,if_pos rfl,hg1];rfl) (by simpa using ho) (by simp [k3.fl];exact hf)
   refine⟨e',h',tG step q1,q2,q3,q4,q5, ?_, ?_,by rw[q8];simp [k3.fl],by have:=k3.nx;simp at q9;omega,fun i i1 i2 i4 i5=> ?_⟩
   · rw[yR];exact q6
   · rw[yR];exact q7
   · rw[q10 i (by have:=k3.nx;simp;omega) i2 i4 i5,H.dF,if_neg i5,k3.Ck i i1 i2 i4]
theorem GR {c:FC} {S:SS} {h:H} {ov:AV} (cl:List Int) (hcl:cl.length<1000) (st:Ft c S h ov) (he:S.e=0) (many:Nat) (hm:many≤400):
 ∃ h' S' v, aS AP.A 53 [.aC c.f 0, wa cl, I many] h = some (v, h') ∧ Ft c S' h' ov ∧ FF c h ov h' ov ∧ match wP c.text cl many (8 * c.text.size + 1) [] S.at_ with
   |some (L,p)=>S'={S with at_:=p}∧L.length=many∧nC h' v (ints L)∧∀j,v.id?=some j→h.next≤j
   |none=>S'.e=700:=by
 obtain⟨h',S',q1,q2,q3⟩:=C8 h cl hcl many hm (8* c.text.size+1) [] S h ov .aQ st he (by omega) (FF.refl _ _ _) (.inl ⟨rfl,rfl⟩) (by simp) (fun j q=>by cases q) (fun j hj=>st.lt hj)
 have close:∀e' v,Lp AP.A [0,1,2,7] AP.f53L1 [(0,.aC c.f 0),(1,wa cl),(2,I many),(7,.aQ)] h=some (.exit 0,e',h')→look e' 7=v→aS AP.A 53 [.aC c.f 0,wa cl,I many] h=some (v,h'):=by
  intro e' v r1 r2
  refine tT (fn:=AP.f53) (e:=[(6,v)]) (vs:=[v]) rfl rfl rfl ?_ rfl
  simp only[I]at *
  simp only[AP.f53,go_sem,sF,r1,r2]
 cases hL:wP c.text cl many (8* c.text.size+1) [] S.at_ with
 | some q =>
   rw[hL]at q3
   obtain⟨r1,r2,e',v',r3,r4,r5,r6⟩:=q3
   exact⟨h',S',v',close e' v' r3 r4,q1,q2,r1,r2,r5,r6⟩
 | none =>
   rw[hL]at q3
   obtain⟨r1,⟨e',v',r3,r4⟩|⟨e',r3,r4⟩⟩:=q3
   · exact⟨h',S',v',close e' v' r3 r4,q1,q2,r1⟩
   · refine⟨h',S',.aQ, ?_,q1,q2,r1⟩
     refine tT (fn:=AP.f53) (e:=e') (vs:=[.aQ]) rfl rfl rfl ?_ (by simp only[AP.f53,cM,nk,r4];rfl)
     simp only[I]at *
     simp only[AP.f53,go_sem,sF,r3]
theorem GM (t:ByteArray) (most:Int) (out:List Nat) {p:Nat} (hp:¬p+14≤8* t.size):DK t most p out=.error 700:=by
 unfold DK
 split
 · dsimp only
   split
   · rfl
   · have:∀m,yV t m (p+10)=none:=fun m=>by rw[yV,if_neg (by omega)]
     rw[this]
 · rfl
theorem GO {c : FC} {S : SS} {h : H} {ov : AV} (st : Ft c S h ov) (he : S.e = 0) :
 ∃h' ov' S',aS AP.A 24 [.aC c.f 0] h=some (.bP [],h')∧Ft c S' h' ov'∧FF c h ov h' ov'∧Fin (DK c.text c.most S.at_ S.out) S':=by
 obtain⟨h1,a1,a2,a3⟩:=ye st 5 5 rfl (by omega)
 obtain⟨h2,b1,b2,b3⟩:=ye a2 5 5 rfl (by omega)
 obtain⟨h3,d1,d2,d3⟩:=ye b2 4 4 rfl (by omega)
 obtain⟨A,hA⟩:∃n,n=(wv c 5 S).1:=⟨_,rfl⟩
 obtain⟨S1,hS1⟩:∃n,n=(wv c 5 S).2:=⟨_,rfl⟩
 rw[←hA]at a1;rw[←hS1]at a2 b1 b2 d1 d2
 obtain⟨B,hB⟩:∃n,n=(wv c 5 S1).1:=⟨_,rfl⟩
 obtain⟨S2,hS2⟩:∃n,n=(wv c 5 S1).2:=⟨_,rfl⟩
 rw[←hB]at b1;rw[←hS2]at b2 d1 d2
 obtain⟨C,hC⟩:∃n,n=(wv c 4 S2).1:=⟨_,rfl⟩
 obtain⟨S3,hS3⟩:∃n,n=(wv c 4 S2).2:=⟨_,rfl⟩
 rw[←hC]at d1;rw[←hS3]at d2
 have g5:∀S,(wv c 5 S).1<32:=fun S=>by
  unfold wv;split
  · simpa using wQ c.text S.at_ 5
  · simp
 have hA32:A<32:=hA ▸ g5 S
 have hB32:B<32:=hB ▸ g5 S1
 have hC16:C<16:=by
  rw[hC];unfold wv;split
  · simpa using wQ c.text S2.at_ 4
  · simp
 have w1:IntKind.wrap .i64 (257+(A:Int))=((A+257:Nat):Int):=by rw[show 257+(A:Int)=((A+257:Nat):Int)by omega];exact vK (by omega)
 have w2:IntKind.wrap .i64 (1+(B:Int))=((B+1:Nat):Int):=by rw[show 1+(B:Int)=((B+1:Nat):Int)by omega];exact vK (by omega)
 have w3:IntKind.wrap .i64 (4+(C:Int))=((C+4:Nat):Int):=by rw[show 4+(C:Int)=((C+4:Nat):Int)by omega];exact vK (by omega)
 have gf3:=d2.gf
 have he3:S3.e=0∨S3.e=700:=by rw[hS3];exact BM c 4 _ (by rw[hS2];exact BM c 5 _ (by rw[hS1];exact BM c 5 S (.inl he)))
 have fr3:=(a3.trans b3).trans d3
 have bad:(S3.e≠0∨286<A+257∨30<B+1)→∃h' ov' S',aS AP.A 24 [.aC c.f 0] h=some (.bP [],h')∧Ft c S' h' ov'∧FF c h ov h' ov'∧S'.e=700∧(700:Int)≠0:=by
  intro hb
  obtain⟨h4,f1,f2,f3⟩:=yB d2
  refine⟨h4,ov,vX 700 S3, ?_,f2,fr3.trans f3,by rcases he3 with q|q<;>simp [vX,q],by decide⟩
  refine tT (fn:=AP.f24) (e:=[]) (vs:=[]) rfl rfl rfl ?_ rfl
  by_cases c1:S3.e=0
  · have c1':=uz c1
    by_cases c2:286<A+257
    · have c2':(286:Int)<((A+257:Nat):Int):=by omega
      simp only[I]at *
      simp only[AP.f24,go_sem,a1,b1,d1,w1,w2,w3,gf3,c1',Xb c2',f1]
    · have c2':¬(286:Int)<((A+257:Nat):Int):=by omega
      have c3':(30:Int)<((B+1:Nat):Int):=by
       rcases hb with q|q|q
       · exact absurd c1 q
       · exact absurd q c2
       · omega
      simp only[I]at *
      simp only[AP.f24,go_sem,a1,b1,d1,w1,w2,w3,gf3,c1',W8 c2',Xb c3',f1]
  · have c1':=uA c1
    simp only[I]at *
    simp only[AP.f24,go_sem,a1,b1,d1,w1,w2,w3,gf3,c1',f1]
 by_cases hp:S.at_+14≤8* c.text.size
 · unfold DK
   have e1:wv c 5 S=(vQ c.text S.at_ 5,{S with at_:=S.at_+5}):=by rw[wv,if_pos (by omega)]
   rw[e1]at hA hS1;dsimp only at hA hS1
   have e2:wv c 5 {S with at_:=S.at_+5}=(vQ c.text (S.at_+5) 5,{S with at_:=S.at_+5+5}):=by rw[wv,if_pos (by show S.at_+5+5≤_;omega)]
   rw[hS1,e2]at hB hS2;dsimp only at hB hS2
   have e3:wv c 4 {S with at_:=S.at_+5+5}=(vQ c.text (S.at_+5+5) 4,{S with at_:=S.at_+5+5+4}):=by rw[wv,if_pos (by show S.at_+5+5+4≤_;omega)]
   rw[hS2,e3]at hC hS3;dsimp only at hC hS3
   rw[if_pos (show S.at_+10≤8* c.text.size by omega)]
   dsimp only
   rw[←hA,←hB]
   by_cases hbig:286<A+257∨30<B+1
   · rw[if_pos hbig];exact bad (.inr hbig)
   rw[if_neg hbig]
   have he30:S3.e=0:=by rw[hS3];exact he
   have hat3:S3.at_=S.at_+14:=by rw[hS3]
   have c1':(S3.e !=0)=false:=uz he30
   have c2':¬(286:Int)<((A+257:Nat):Int):=by omega
   have c3':¬(30:Int)<((B+1:Nat):Int):=by omega
   have w4:IntKind.wrap .i64 (((A+257:Nat):Int)+((B+1:Nat):Int))=((A+257+(B+1):Nat):Int):=by
    rw[show((A+257:Nat):Int)+((B+1:Nat):Int)=((A+257+(B+1):Nat):Int)by omega];exact vK (by omega)
   obtain⟨a,ha⟩:∃a,a=h3.next:=⟨_,rfl⟩
   obtain⟨g0,hg0⟩:∃g,g=h3.alloc (ints (List.replicate 19 0)):=⟨_,rfl⟩
   have al:=d2.alloc (ints (List.replicate 19 0))
   rw[←hg0]at al
   have hga:g0.get a=some (ints (List.replicate 19 0)):=by rw[hg0,H.aX,if_pos ha]
   have oc:=Kf g0
   have bt:∀e:Env,aZ e (.ja 1 8 [.int .i64 0] (.c (.int .i64 19)) (.c (.int .i64 19)))=some (ints (List.replicate 19 0),fun i=>.aD i 0 19 1):=fun _=>rfl
   have hac:a≠c.f:=fun e=>by have:=d2.lt (.inl e);omega
   have hoa:ov.id?≠some a:=fun e=>by have:=d2.lt (.inr e);omega
   obtain⟨e4,h4,l1,l2,l3,l4,l5,l6,l7,l8,l9,l10⟩:=D3 (c:=c) a (C+4) (by omega) (I (A+257:Nat)) (I (B+1:Nat)) (wy.take (C+4)) [] (List.replicate 19 0) S3 g0 ov rfl al.1 hoa hac hga (by simp) (by rw[hg0,ha];simp;exact d2.nx)
   have l1':Lp AP.A [0,2,3,4,5,6,7] AP.f24L0 [(0,.aC c.f 0),(2,I (A+257:Nat)),(3,I (B+1:Nat)),(4,I (C+4:Nat)),(5,.aD a 0 19 1),(6,wB wy),(7,I 0)] g0=some (.exit 0,e4,h4):=l1
   clear l1
   have hn0:g0.next=h3.next+1:=by rw[hg0];simp
   have fr4:FF c h ov h4 ov:=by
    refine⟨by rw[l8,al.2.fl,fr3.fl], ?_,fun id i1 i2 i4=> ?_,fun i hi=>.inl hi⟩
    · have:=fr3.nx;omega
    · have:=fr3.nx
      rw[l10 id (by omega) i2 i4 (by omega),al.2.Ck id (by omega) i2 i4,fr3.Ck id i1 i2 i4]
   obtain⟨cl,hcl⟩:∃cl,cl=(yR (Fh c) (wy.take (C+4)) (List.replicate 19 0) S3).1:=⟨_,rfl⟩
   obtain⟨S4,hS4⟩:∃cl,cl=(yR (Fh c) (wy.take (C+4)) (List.replicate 19 0) S3).2:=⟨_,rfl⟩
   rw[←hS4]at l6;rw[←hcl]at l7
   have hcll:cl.length=19:=by rw[hcl,Dm];simp
   have hol:(wy.take (C+4)).length=C+4:=by rw[List.length_take];show min (C+4) 19=C+4;omega
   have ij:Rd h4 (.aD a 0 19 1) (ints cl):=by
    refine⟨?_,by intro s e;cases e⟩
    simp [aT,l7,hcll,vA]
   have ck:=CT h4 (.aD a 0 19 1) cl (by omega) ij
   have bk:=Ag h4 (.aD a 0 19 1) cl (by omega) ij
   have gf4:=l6.gf
   have he4:S4.e=0∨S4.e=700:=by rw[hS4];exact Ki _ _ _ _ (.inl he30)
   have bad2:(S4.e≠0∨wK cl≠0)→∃h' ov' S',aS AP.A 24 [.aC c.f 0] h=some (.bP [],h')∧Ft c S' h' ov'∧FF c h ov h' ov'∧S'.e=700∧(700:Int)≠0:=by
    intro hb
    obtain⟨h5,f1,f2,f3⟩:=yB l6
    refine⟨h5,ov,vX 700 S4, ?_,f2,fr4.trans f3,by rcases he4 with q|q<;>simp [vX,q],by decide⟩
    refine tT (fn:=AP.f24) (e:=[]) (vs:=[]) rfl rfl rfl ?_ rfl
    by_cases q1:S4.e=0
    · have q1':=uz q1
      have q2':(wK cl !=0)=true:=uA (by rcases hb with q|q;exact absurd q1 q;exact q)
      simp only[I]at *
      simp only[AP.f24,go_sem,a1,b1,d1,w1,w2,w3,gf3,c1',W8 c2',W8 c3',bt,←hg0,←ha,oc,sF,l1',l2,l3,l4,l5,gf4,q1',ck,q2',f1]
    · have q1':=uA q1
      simp only[I]at *
      simp only[AP.f24,go_sem,a1,b1,d1,w1,w2,w3,gf3,c1',W8 c2',W8 c3',bt,←hg0,←ha,oc,sF,l1',l2,l3,l4,l5,gf4,q1',f1]
   have hlens:yV c.text (A+257+(B+1)) (S.at_+10)=if S.at_+14+3* (C+4)≤8* c.text.size then(if wK (DM c.text (wy.take (C+4)) (S.at_+14) (List.replicate 19 0))=0 then wP c.text (DM c.text (wy.take (C+4)) (S.at_+14) (List.replicate 19 0)) (A+257+(B+1)) (8* c.text.size+1) [] (S.at_+14+3* (C+4))else none)else none:=by
    have hC':vQ c.text (S.at_+10) 4=C:=hC.symm
    unfold yV
    rw[if_pos (show S.at_+10+4≤8* c.text.size by omega)]
    dsimp only
    rw[hC',show S.at_+10+4=S.at_+14 by omega]
   by_cases hp2:S.at_+14+3* (C+4)≤8* c.text.size
   · have ok := E1 (Fh c) (wy.take (C + 4)) (List.replicate 19 0) S3 he30 (by rw [hol, hat3]; exact hp2)
     rw[ok]at hcl hS4
     dsimp only at hcl hS4
     rw[hol]at hS4
     rw[hat3]at hcl
     have hcl':cl=DM c.text (wy.take (C+4)) (S.at_+14) (List.replicate 19 0):=hcl
     rw[if_pos hp2,←hcl']at hlens
     by_cases hck:wK cl=0
     · rw [if_pos hck] at hlens
       have he40:S4.e=0:=by rw[hS4];exact he30
       have hat4:S4.at_=S.at_+14+3* (C+4):=by rw[hS4];show S3.at_+3* (C+4)=_;rw[hat3]
       have q1':=uz he40
       have q2':=uz hck
       obtain⟨h5,S5,av,m1,m2,m3,m4⟩:=GR cl (by omega) l6 he40 (A+257+(B+1)) (by omega)
       have gf5:=m2.gf
       rw[hat4]at m4
       rw[hlens]
       cases hL:wP c.text cl (A+257+(B+1)) (8* c.text.size+1) [] (S.at_+14+3* (C+4))with
       | none =>
         rw[hL]at m4
         have q3':(S5.e !=0)=true:=uA (by rw[m4];decide)
         refine⟨h5,ov,S5, ?_,m2,fr4.trans m3,m4,by decide⟩
         refine tT (fn:=AP.f24) (e:=[(0,.aC c.f 0),(2,I (A+257:Nat)),(8,av),(71,.bool true)]) (vs:=[]) rfl rfl rfl ?_ rfl
         simp only[I]at *
         simp only[AP.f24,go_sem,a1,b1,d1,w1,w2,w3,gf3,c1',W8 c2',W8 c3',bt,←hg0,←ha,oc,sF,l1',l2,l3,l4,l5,gf4,q1',ck,q2',bk,w4,m1,gf5,q3']
       | some q =>
         obtain⟨L,p2⟩:=q
         rw[hL]at m4
         obtain⟨m4,m5,m6,m7⟩:=m4
         have he5:S5.e=0:=by rw[m4];exact he40
         have q3':=uz he5
         have hrng:yg L:=Ea (t:=c.text) (many:=A+257+(B+1)) (p:=S.at_+10) (p2:=p2) (by rw[hlens,hL])
         dsimp only
         obtain⟨id,hav,hgid⟩:∃id,av=.aD id 0 (A+257+(B+1)) 1∧h5.get id=some (ints L):=by
          rcases m6 with ⟨_,q⟩|⟨id,q1,q2,_⟩
          · have:=Xy List.length q;rw[pP,m5,Xa]at this;omega
          · exact⟨id,by rw[q1,pP,m5],q2⟩
         have hil:(ints L).length=A+257+(B+1):=by rw[pP,m5]
         have s1:=EG (h:=h5) (k:=A+257) hgid hil (u6 _) (by omega)
         have s2:=GI (h:=h5) (k:=A+257) hgid hil (by omega)
         rw[show A+257+(B+1)-(A+257)=B+1 by omega]at s2
         rw[←hav]at s1 s2
         obtain⟨la,hla⟩:∃x,x=L.take (A+257):=⟨_,rfl⟩
         obtain⟨lb,hlb⟩:∃x,x=L.drop (A+257):=⟨_,rfl⟩
         have hlal:la.length=A+257:=by rw[hla,List.length_take];omega
         have hlbl:lb.length=B+1:=by rw[hlb,List.length_drop];omega
         have ra:Rd h5 (.aD id 0 (A+257) 1) (ints la):=by
          refine⟨?_,by intro s e;cases e⟩
          simp only[aT,if_true,hgid,uZ]
          rw[if_pos (by rw[hil];omega),hla];simp [ints,List.map_take];omega
         have rb:Rd h5 (.aD id (A+257) (B+1) 1) (ints lb):=by
          refine⟨?_,by intro s e;cases e⟩
          simp only[aT,if_true,hgid,uZ]
          rw[if_pos (by rw[hil];omega),hlb]
          have:(ints (L.drop (A+257))).length=B+1:=by rw[pP,←hlb,hlbl]
          rw[this,ints,ints,←List.map_drop,XD,vA (by rw[Xd,←hlb,hlbl];omega)]
         rw[←hla,←hlb]
         have cka:=CT h5 _ la (by omega) ra
         have ckb:=CT h5 _ lb (by omega) rb
         have hra:yg la:=fun y hy=>hrng y (List.mem_of_mem_take (hla ▸ hy))
         have hrb:yg lb:=fun y hy=>hrng y (List.mem_of_mem_drop (hlb ▸ hy))
         have sgb:=KF h5 _ lb (by omega) hrb rb
         have mka:=Ag h5 _ la (by omega) ra
         have mkb:=Ag h5 _ lb (by omega) rb
         have hel0:la.getD 256 0=L.getD 256 0:=by
          rw[hla,List.getD_eq_getElem?_getD,List.getD_eq_getElem?_getD,vE,if_pos (by omega)]
         have hel:=Ay (l:=L) (i:=256) (by omega)
         rw[←hel0]at hel
         obtain⟨id2,i1,i2,i3⟩:=m6.elem hel
         have i2':fV 1 av (I 256)=some (.aC id2 256):=i2
         clear i2
         by_cases hbad:wK la≠0∨la.getD 256 0=0∨(wK lb≠0∧xz lb=false)
         · rw [if_pos hbad]
           obtain⟨h6,f1,f2,f3⟩:=yB m2
           refine⟨h6,ov,vX 700 S5, ?_,f2,(fr4.trans m3).trans f3,by simp [vX,he5],by decide⟩
           refine tT (fn:=AP.f24) (e:=[]) (vs:=[]) rfl rfl rfl ?_ rfl
           by_cases x1:wK la=0
           · have x1':=uz x1
             by_cases x2:la.getD 256 0=0
             · have x2':=uy x2
               simp only[I]at *
               simp only[AP.f24,go_sem,a1,b1,d1,w1,w2,w3,gf3,c1',W8 c2',W8 c3',bt,←hg0,←ha,oc,sF,l1',l2,l3,l4,l5,gf4,q1',ck,q2',bk,w4,m1,gf5,q3',Xc,Xp,s1,s2,cka,x1',i2',i3,hel,x2',f1]
             · have x2':=ux x2
               obtain⟨x3,x4⟩:wK lb≠0∧xz lb=false:=by
                rcases hbad with q|q|q
                · exact absurd x1 q
                · exact absurd q x2
                · exact q
               have x3':=uA x3
               rw[x4]at sgb
               simp only[I]at *
               simp only[AP.f24,go_sem,a1,b1,d1,w1,w2,w3,gf3,c1',W8 c2',W8 c3',bt,←hg0,←ha,oc,sF,l1',l2,l3,l4,l5,gf4,q1',ck,q2',bk,w4,m1,gf5,q3',Xc,Xp,s1,s2,cka,x1',i2',i3,hel,x2',ckb,x3',sgb,f1]
           · have x1':=uA x1
             simp only[I]at *
             simp only[AP.f24,go_sem,a1,b1,d1,w1,w2,w3,gf3,c1',W8 c2',W8 c3',bt,←hg0,←ha,oc,sF,l1',l2,l3,l4,l5,gf4,q1',ck,q2',bk,w4,m1,gf5,q3',Xc,Xp,s1,s2,cka,x1',f1]
         · rw [if_neg hbad]
           have x1:wK la=0:=Decidable.byContradiction fun q=>hbad (.inl q)
           have x2:la.getD 256 0≠0:=fun q=>hbad (.inr (.inl q))
           have x1':=uz x1
           have x2':=ux x2
           obtain⟨h6,ov6,S6,r1,r2,r3,r4⟩:=FM la lb (by omega) (by omega) m2 he5
           have last:aM (aS AP.A) bB (.iY [0,1,2,3,4,5,6,7,8,9] [⟨(some 99),.mv (.t 0),none⟩,⟨(some 100),.mv (.t 8),none⟩,⟨(some 101),.mv (.t 2),none⟩,⟨(some 102),.sl 1 (.t 100) none (some (.t 101)) none,none⟩,⟨(some 103),.call (.c (.fn 21 [] [])) [(.t 102)],none⟩,⟨(some 104),.mv (.t 8),none⟩,⟨(some 105),.mv (.t 2),none⟩,⟨(some 106),.sl 1 (.t 104) (some (.t 105)) none none,none⟩,⟨(some 107),.call (.c (.fn 21 [] [])) [(.t 106)],none⟩,⟨(some 108),.call (.c (.fn 20 [] [])) [(.t 99),(.t 103),(.t 107)],none⟩] [(7,[0])] []) [(0,.aC c.f 0),(2,I (A+257:Nat)),(8,av)] h5=some (.normal,[],h6):=by
            rw[EC (e':=[(108,.bP []),(107,wa lb),(106,.aD id (A+257) (B+1) 1),(105,I (A+257:Nat)),(104,av),(103,wa la),(102,.aD id 0 (A+257) 1),(101,I (A+257:Nat)),(100,av),(99,.aC c.f 0),(0,.aC c.f 0),(2,I (A+257:Nat)),(8,av)]) (h':=h6) (gs:=[h5,h5,h5,h6])]
            · simp only[go_sem]
            · simp only[zL,BP,BN,BS,BR,bX.aP,go_sem,Xc,Xp,s1,s2,mka,mkb,r1]
            · refine zQ (fun k hk=> ?_) rfl
              obtain rfl:k=0:=by simpa using hk
              refine zP (o:=⟨some 106,.sl 1 (.t 104) (some (.t 105)) none none,none⟩) (g:=h5) (h':=h5) (d:=106) (u:=.aD id (A+257) (B+1) 1) rfl rfl rfl rfl ?_ ?_
              · simp only[ai,go_sem,Xc,Xp,s2]
              · simp only[go_sem,Be]
           refine⟨h6,ov6,S6, ?_,r2,(fr4.trans m3).trans r3, ?_⟩
           · refine wC (fn:=AP.f24) (e:=[]) (vs:=[]) rfl rfl rfl ?_ rfl
             by_cases x3:wK lb=0
             · have x3':=uz x3
               simp only[I]at *
               simp only[AP.f24,go_sem,a1,b1,d1,w1,w2,w3,gf3,c1',W8 c2',W8 c3',bt,←hg0,←ha,oc,sF,l1',l2,l3,l4,l5,gf4,q1',ck,q2',bk,w4,m1,gf5,q3',Xc,Xp,s1,s2,cka,x1',i2',i3,hel,x2',ckb,x3',last]
             · have x3':=uA x3
               have x4:xz lb=true:=by
                cases hs:xz lb with
                |true=>rfl
                |false=>exact absurd (.inr (.inr ⟨x3,hs⟩)) hbad
               rw[x4]at sgb
               simp only[I]at *
               simp only[AP.f24,go_sem,a1,b1,d1,w1,w2,w3,gf3,c1',W8 c2',W8 c3',bt,←hg0,←ha,oc,sF,l1',l2,l3,l4,l5,gf4,q1',ck,q2',bk,w4,m1,gf5,q3',Xc,Xp,s1,s2,cka,x1',i2',i3,hel,x2',ckb,x3',sgb,last]
           · have h1:S5.at_=p2:=by rw[m4]
             have h2:S5.out=S.out:=by rw[m4,hS4,hS3]
             rw[h1,h2]at r4;exact r4
     · rw[if_neg hck]at hlens
       rw[hlens]
       exact bad2 (.inr hck)
   · rw[if_neg hp2]at hlens
     rw[hlens]
     refine bad2 (.inl ?_)
     rw[hS4,Dl (Fh c) _ _ S3 he30 (by rw[hat3];exact hp) (by rw[hol,hat3];show 8* c.text.size<_;omega)];decide
 · rw[GM c.text c.most S.out hp]
   refine bad (.inl ?_)
   rw[hS3,hS2,hS1]
   unfold wv
   by_cases q1:S.at_+5≤8* c.text.size
   · simp only[if_pos q1]
     by_cases q2:S.at_+5+5≤8* c.text.size
     · simp only[if_pos q2];rw[if_neg (by omega)];simp [vX,he]
     · simp only[if_neg q2,vX,he,if_true];split<;>simp
   · simp only[if_neg q1,vX,he,if_true]
     split
     · split<;>simp
     · simp;split<;>simp
theorem D0 {c:FC} {S:SS} {h:H} {ov:AV} (st:Ft c S h ov) (b:Int) (hs:b≠0∨(b=0∧S.e≠0)):
 ∃e',Lp AP.A [7,8] AP.f8L0 [(7,.aC c.f 0),(8,I b)] h=some (.exit 0,e',h)∧look e' 7=.aC c.f 0:=by
 have gf:=st.gf
 refine⟨[(7,.aC c.f 0),(29,.bool false)],tF ?_,rfl⟩
 rcases hs with hb|⟨hb,he⟩
 · have c1:=ux hb
   simp only[I]at *
   simp only[AP.f8L0,go_sem,c1]
 · have c1:=uy hb
   have c2:=ux he
   simp only[I]at *
   simp only[AP.f8L0,go_sem,c1,gf,c2]
theorem DZ {c : FC} : ∀ (f : Nat) (S : SS) (h : H) (ov : AV), Ft c S h ov → S.e = 0 → 8 * c.text.size < S.at_ + f →
 ∃e' h' ov' S',Lp AP.A [7,8] AP.f8L0 [(7,.aC c.f 0),(8,I 0)] h=some (.exit 0,e',h')∧look e' 7=.aC c.f 0∧Ft c S' h' ov'∧FF c h ov h' ov'∧Fin (yc c.text c.most f S.at_ S.out) S'
 |0,S,h,ov,st,he,hk=>by have:=st.xE;omega
 | f + 1, S, h, ov, st, he, hk => by
   have gf:=st.gf
   rw[he]at gf
   obtain⟨h1,a1,a2,a3⟩:=ye st 1 1 rfl (by omega)
   obtain⟨h2,b1,b2,b3⟩:=ye a2 2 2 rfl (by omega)
   obtain⟨A,hA⟩:∃n,n=(wv c 1 S).1:=⟨_,rfl⟩
   obtain⟨S1,hS1⟩:∃n,n=(wv c 1 S).2:=⟨_,rfl⟩
   rw[←hA]at a1;rw[←hS1]at a2 b1 b2
   obtain⟨B,hB⟩:∃n,n=(wv c 2 S1).1:=⟨_,rfl⟩
   obtain⟨S2,hS2⟩:∃n,n=(wv c 2 S1).2:=⟨_,rfl⟩
   rw[←hB]at b1;rw[←hS2]at b2
   have gf2:=b2.gf
   have fr2:=a3.trans b3
   rw[yc]
   unfold zg
   by_cases hp:S.at_+3≤8* c.text.size
   · rw [if_pos hp]
     have e1:wv c 1 S=(vQ c.text S.at_ 1,{S with at_:=S.at_+1}):=by rw[wv,if_pos (by omega)]
     rw[e1]at hA hS1;dsimp only at hA hS1
     have e2:wv c 2 {S with at_:=S.at_+1}=(vQ c.text (S.at_+1) 2,{S with at_:=S.at_+1+2}):=by rw[wv,if_pos (by show S.at_+1+2≤_;omega)]
     rw[hS1,e2]at hB hS2;dsimp only at hB hS2
     have he2:S2.e=0:=by rw[hS2];exact he
     have hat:S2.at_=S.at_+3:=by rw[hS2]
     have hout:S2.out=S.out:=by rw[hS2]
     have hA2:A<2:=by rw[hA];simpa using wQ c.text S.at_ 1
     dsimp only
     rw[←hA,←hB]
     have ce:=uz he2
     have n0:((0:Int)==0)=true:=rfl
     have z0:((0:Int)==0)=true:=rfl
     have close:∀(r:Rs) (h':H) (ov':AV) (S':SS),aM (aS AP.A) bB AP.f8L0 (ax [(7,.aC c.f 0),(8,I 0)] [7,8]) h=some (.normal,[(7,.aC c.f 0),(8,I A)],h')→Ft c S' h' ov'→FF c h2 ov h' ov'→Fin r S'→(∀q,r=.ok q→S.at_<q.1)→
      ∃e' h' ov' S',Lp AP.A [7,8] AP.f8L0 [(7,.aC c.f 0),(8,I 0)] h=some (.exit 0,e',h')∧look e' 7=.aC c.f 0∧Ft c S' h' ov'∧FF c h ov h' ov'∧Fin (match (match r with| .ok q=>(.ok (A==1,q.1,q.2):Except Int (Bool×Nat×List Nat))| .error k=>.error k)with| .error k=>.error k| .ok (last,p2,o)=>if last then .ok (p2,o)else yc c.text c.most f p2 o) S':=by
      intro r h' ov' S' step q2 q3 q4 q5
      cases r with
      | error k =>
        have hs:(A:Int)≠0∨((A:Int)=0∧S'.e≠0):=by
         by_cases q:(A:Int)=0
         · exact .inr ⟨q,by rw[q4.1];exact q4.2⟩
         · exact .inl q
        obtain⟨e',r1,r2⟩:=D0 q2 A hs
        exact⟨e',h',ov',S',tG step r1,r2,q2,fr2.trans q3,q4⟩
      | ok q =>
        obtain⟨p2,o⟩:=q
        simp only[Fin]at q4
        dsimp only
        by_cases hA1:A=1
        · have hb:(A==1)=true:=by rw[hA1];rfl
          rw[hb]
          simp only[if_true]
          obtain⟨e',r1,r2⟩:=D0 q2 A (.inl (by omega))
          exact⟨e',h',ov',S',tG step r1,r2,q2,fr2.trans q3,q4⟩
        · have hA0:A=0:=by omega
          have hb:(A==1)=false:=by rw[hA0];rfl
          rw[hb]
          simp only[u0,vG]
          rw[hA0]at step
          subst q4
          have h5:=q5 (p2,o) rfl
          dsimp only at h5
          obtain⟨e',h'',ov'',S'',r1,r2,r3,r4,r5⟩:=DZ f _ h' ov' q2 rfl (by dsimp only;omega)
          exact⟨e',h'',ov'',S'',tG step r1,r2,r3,(fr2.trans q3).trans r4,r5⟩
     by_cases d0:B=0
     · rw [if_pos d0]
       obtain⟨h',ov',S',q1,q2,q3,q4⟩:=IP b2 he2
       rw[hat,hout]at q4
       have d0':((B:Int)==0)=true:=uy (by omega)
       refine close _ h' ov' S' ?_ q2 q3 q4 (fun q hq=> ?_)
       · simp only[I]at *
         simp only[AP.f8L0,go_sem,gf,a1,b1,gf2,ce,d0',q1]
       · unfold y3 at hq
         dsimp only at hq
         split at hq
         · split at hq
           · obtain⟨p2,o⟩:=q
             have:=B6 hq;dsimp only;omega
           · cases hq
         · cases hq
     · rw [if_neg d0]
       have d0':((B:Int)==0)=false:=ux (by omega)
       by_cases d1:B=1
       · rw[if_pos d1]
         have d1':((B:Int)==1)=true:=uy (by omega)
         have f1:=JP h2
         have m1:=Ag h2 (wB xr) xr (by rw[zh];omega) (yh _ _)
         have f2:=Lr h2
         have m2:=Ag h2 (wB (List.replicate 30 5)) (List.replicate 30 5) (by rw[Xu];omega) (yh _ _)
         obtain⟨h',ov',S',q1,q2,q3,q4⟩:=FM xr (List.replicate 30 5) (by rw[zh];omega) (by rw[Xu];omega) b2 he2
         rw[hat,hout]at q4
         refine close _ h' ov' S' ?_ q2 q3 q4 (fun q hq=>by obtain⟨p2,o⟩:=q;have:=zG hq;dsimp only;omega)
         generalize wa xr=bf at *
         generalize wa (List.replicate 30 5)=bd at *
         generalize wB xr=vf at *
         generalize wB (List.replicate 30 5)=vd at *
         simp only[I]at *
         simp only[AP.f8L0,go_sem,gf,a1,b1,gf2,ce,d0',d1',f1,m1,f2,m2,q1]
       · rw [if_neg d1]
         have d1':((B:Int)==1)=false:=ux (by omega)
         by_cases d2:B=2
         · rw [if_pos d2]
           have d2':((B:Int)==2)=true:=uy (by omega)
           obtain⟨h',ov',S',q1,q2,q3,q4⟩:=GO b2 he2
           rw[hat,hout]at q4
           refine close _ h' ov' S' ?_ q2 q3 q4 (fun q hq=> ?_)
           · simp only[I]at *
             simp only[AP.f8L0,go_sem,gf,a1,b1,gf2,ce,d0',d1',d2',q1]
           · have hb:zg c.text c.most S.at_ S.out=.ok (vQ c.text S.at_ 1==1,q.1,q.2):=by
              unfold zg
              rw[if_pos hp]
              dsimp only
              rw[←hB,if_neg d0,if_neg d1,if_pos d2,hq]
             have:=DR hb
             exact this
         · rw[if_neg d2]
           have d2':((B:Int)==2)=false:=ux (by omega)
           obtain⟨h',q1,q2,q3⟩:=yB b2
           refine close (.error 700) h' ov _ ?_ q2 q3 ⟨by simp [vX,he2],by decide⟩ (fun q hq=>by cases hq)
           simp only[I]at *
           simp only[AP.f8L0,go_sem,gf,a1,b1,gf2,ce,d0',d1',d2',q1]
   · rw [if_neg hp]
     have he2:S2.e=700:=by
      by_cases q1:S.at_+1≤8* c.text.size
      · have e1:wv c 1 S=(vQ c.text S.at_ 1,{S with at_:=S.at_+1}):=by rw[wv,if_pos q1]
        rw[e1]at hS1;dsimp only at hS1
        have e2:wv c 2 S1=(0,{S1 with e:=700}):=by rw[wv,if_neg (by rw[hS1];show¬S.at_+1+2≤_;omega),vX,if_pos (by rw[hS1];exact he)]
        rw[e2]at hS2
        rw[hS2]
      · have e1:wv c 1 S=(0,{S with e:=700}):=by rw[wv,if_neg q1,vX,if_pos he]
        rw[e1]at hS1;dsimp only at hS1
        have e2:wv c 2 S1=(0,S1):=by rw[wv,if_neg (by rw[hS1];show¬S.at_+2≤_;omega),vX,if_neg (by rw[hS1];simp)]
        rw[e2]at hS2
        rw[hS2,hS1]
     have ce:(S2.e !=0)=true:=uA (by rw[he2];decide)
     refine⟨[(7,.aC c.f 0),(8,I A),(9,I B),(38,.bool true)],h2,ov,S2,tF ?_,rfl,b2,fr2,he2,by decide⟩
     simp only[I]at *
     simp only[AP.f8L0,go_sem,gf,a1,b1,gf2,ce]
theorem GP (h:H) (t:ByteArray) (most:Int) (hs:t.size<1125899906842624):aS AP.A 8 [.str t,I most] h=some (IW (yy t most),h):=by
 unfold yy
 by_cases c1:most<0
 · rw[if_pos (.inl c1)]
   refine uo (fn:=AP.f8) (h2:=h.dY) (e:=[(4,.str ⟨#[]⟩),(5,I 0),(6,I 700)]) rfl rfl rfl ?_ rfl rfl
   simp only[I]at *
   simp only[AP.f8,go_sem,Xb c1]
 by_cases c2:8192<most
 · rw[if_pos (.inr c2)]
   refine uo (fn:=AP.f8) (h2:=h.dY) (e:=[(4,.str ⟨#[]⟩),(5,I 0),(6,I 700)]) rfl rfl rfl ?_ rfl rfl
   simp only[I]at *
   simp only[AP.f8,go_sem,W8 c1,Xb c2]
 rw[if_neg (by omega)]
 obtain⟨h1,hh1⟩:∃g,g=h.dY.alloc [.str t,I 0,.aQ,I most,I 0]:=⟨_,rfl⟩
 have st:Ft ⟨h.next,t,most⟩ ⟨0,[],0⟩ h1 .aQ:=by
  refine⟨?_,.inl ⟨rfl,rfl⟩, ?_,by simp [AV.id?], ?_,hs,by simp,by simp;omega,by show most≤900000;omega⟩
  · rw[hh1,H.aX,if_pos (show h.next=h.dY.next from rfl)];rfl
  · rw[hh1];simp
  · rw[hh1];simp
 obtain⟨e',h3,ov,S,q1,q2,q3,q4,q5⟩:=DZ (8* t.size+1) ⟨0,[],0⟩ h1 .aQ st rfl (by show 8* t.size<0+(8* t.size+1);omega)
 have gf:=q3.gf
 have bx:∀e:Env,look e 19=.agg [.str t,.int .i64 0,.aQ,.int .i64 most,.int .i64 0]→aZ e (.box 5 (.t 19))=some ([.str t,.int .i64 0,.aQ,.int .i64 most,.int .i64 0],fun i=>.aC i 0):=by
  intro e q;simp only[aZ,sH,q];rfl
 have fl1:dZ [.str ⟨#[]⟩,.int .i64 0] [(0,1,.str t)]=some [.str t,.int .i64 0]:=rfl
 have fl2:dZ [.str ⟨#[]⟩,.int .i64 0,.aQ,.int .i64 0,.int .i64 0] [(0,2,.agg [.str t,.int .i64 0]),(3,1,.int .i64 most)]=some [.str t,.int .i64 0,.aQ,.int .i64 most,.int .i64 0]:=rfl
 have hn:h.dY.next=h.next:=rfl
 dsimp only at q5
 cases hi:yc t most (8* t.size+1) 0 []with
 | error k =>
   rw[hi]at q5
   have c3:(S.e !=0)=true:=uA (by rw[q5.1];exact q5.2)
   have hk:S.e=k:=q5.1
   refine uo (fn:=AP.f8) (h2:=h3) (e:=[(4,.str ⟨#[]⟩),(5,I 0),(6,I k)]) rfl rfl rfl ?_ rfl rfl
   rw[hk]at gf c3
   simp only[I]at *
   simp only[AP.f8,go_sem,W8 c1,W8 c2,hn,Xk,Xx,fl1,fl2]
   rw[bx _ rfl]
   simp only[go_sem,←hh1,hn,sF,q1,q2,gf,c3]
 | ok z =>
   obtain⟨p,o⟩:=z
   rw[hi]at q5
   simp only[Fin]at q5
   have c3:(S.e !=0)=false:=uz (by rw[q5])
   have hb:=Hi q3.own
   subst q5
   dsimp only at gf hb c3
   have hle:=q3.xE
   dsimp only at hle
   have w2:IntKind.wrap .i64 ((p:Int)+7)=((p+7:Nat):Int):=vK (n:=p+7) (by omega)
   have qd:br .quo (.int .i64 ((p+7:Nat):Int)) (.int .i64 8)=some (.int .i64 (((p+7)/8:Nat):Int)):=by
    rw[sg _ _ _ (by omega),show(8:Int)=((8:Nat):Int)from rfl,ya,vK (by omega)]
   refine uo (fn:=AP.f8) (h2:=h3) (e:=[(4,.str (bytesOf o)),(5,I ((p+7)/8:Nat)),(6,I 0)]) rfl rfl rfl ?_ rfl rfl
   generalize (p+7)/8=P at *
   generalize p+7=P7 at *
   simp only[I]at *
   simp only[AP.f8,go_sem,W8 c1,W8 c2,hn,Xk,Xx,fl1,fl2]
   rw[bx _ rfl]
   simp only[go_sem,←hh1,hn,sF,q1,q2,gf,c3,w2,hb,qd]
abbrev E7 (k:Int):Prop:=k=700∨k=701
theorem DC {t:ByteArray} {most k:Int}:∀{n p:Nat} {out:List Nat},xQ t most n p out=.error k→E7 k
 |0,p,out,h=>by cases h
 | n + 1, p, out, h => by
   unfold xQ at h
   split at h
   · split at h
     · cases h;exact .inr rfl
     · exact DC h
   · cases h;exact .inl rfl
theorem Gq {t:ByteArray} {most k:Int} {p:Nat} {out:List Nat} (h:y3 t most p out=.error k):E7 k:=by
 unfold y3 at h
 dsimp only at h
 split at h
 · split at h
   · exact DC h
   · cases h;exact .inl rfl
 · cases h;exact .inl rfl
theorem DU {most k:Int} {d:Nat}:∀{n:Nat} {out:List Nat},Ac most d n out=.error k→E7 k
 |0,out,h=>by cases h
 | n + 1, out, h => by
   unfold Ac at h
   split at h
   · cases h;exact .inr rfl
   · exact DU h
theorem IG {t : ByteArray} {most k : Int} {dl : List Int} {y p : Nat} {out : List Nat} (h : Bm t most dl y p out = .error k) : E7 k := by
 unfold Bm at h
 split at h
 · cases h;exact .inl rfl
 · split at h
   · split at h
     · cases h;exact .inl rfl
     · split at h
       · cases h;exact .inl rfl
       · split at h
         · split at h
           · cases h
           · rename_i q;cases h;exact DU q
         · cases h;exact .inl rfl
   · cases h;exact .inl rfl
theorem zW {t : ByteArray} {most k : Int} {ll dl : List Int} : ∀ {n p : Nat} {out : List Nat}, yu t most ll dl n p out = .error k → E7 k
 |0,p,out,h=>by cases h;exact .inl rfl
 | n + 1, p, out, h => by
   unfold yu at h
   split at h
   · cases h;exact .inl rfl
   · split at h
     · split at h
       · cases h;exact .inr rfl
       · exact zW h
     · split at h
       · cases h
       · split at h
         · exact zW h
         · rename_i q;cases h;exact IG q
theorem JI {t : ByteArray} {most k : Int} {p : Nat} {out : List Nat} (h : DK t most p out = .error k) : E7 k := by
 unfold DK at h
 dsimp only at h
 split at h
 · split at h
   · cases h;exact .inl rfl
   · split at h
     · cases h;exact .inl rfl
     · split at h
       · cases h;exact .inl rfl
       · exact zW h
 · cases h;exact .inl rfl
theorem GJ {t : ByteArray} {most k : Int} {p : Nat} {out : List Nat} (h : zg t most p out = .error k) : E7 k := by
 unfold zg at h
 dsimp only at h
 split at h
 · split at h
   · cases h
   · rename_i q
     cases h
     split at q
     · exact Gq q
     · split at q
       · exact zW q
       · split at q
         · exact JI q
         · cases q;exact .inl rfl
 · cases h;exact .inl rfl
theorem Cf {t:ByteArray} {most k:Int}:∀{n p:Nat} {out:List Nat},yc t most n p out=.error k→E7 k
 | 0, p, out, h => by
   unfold yc at h
   cases h;exact .inl rfl
 | n + 1, p, out, h => by
   unfold yc at h
   split at h
   · rename_i q;cases h;exact GJ q
   · split at h
     · cases h
     · exact Cf h
theorem Bs {t:ByteArray} {most k:Int} (h:yy t most=.error k):E7 k:=by
 unfold yy at h
 split at h
 · cases h;exact .inl rfl
 · split at h
   · cases h
   · rename_i q;cases h;exact Cf q
theorem dt {p:Prop} [Decidable p] (h:p):decide p=true:=Xb h
theorem df {p:Prop} [Decidable p] (h:¬p):decide p=false:=W8 h
theorem VD {a b:Int} (h:a=b):(a==b)=true:=by simp [h]
theorem K2 {a b:Int} (h:¬a=b):(a==b)=false:=by simp [h]
theorem K3 {a b:Int} (h:¬a=b):(a !=b)=true:=by simp [h]
theorem J9 {a b:Int} (h:a=b):(a !=b)=false:=by simp [h]
theorem wi {n:Int} (h: -9223372036854775808≤n∧n<9223372036854775808):IntKind.wrap .i64 n=n:=tZ h.1 (by omega)
theorem wb {n:Int} (h:0≤n∧n<256):IntKind.wrap .u8 n=n:=by
 simp [IntKind.wrap,IntKind.bits,IntKind.signed];omega
theorem Su {i:Int} {n:Nat} (h:0≤i∧i<n):dd (.int .i64 i) n=some i.toNat:=by
 simp [dd,nM,h]
def at_:Nat→aH→aH
 |0,.seq a _=>a
 |0,c=>c
 |n+1,.seq _ b=>at_ n b
 |_+1,c=>c
def DO:Nat→aH→aH
 |0,c=>c
 |n+1,.seq _ b=>DO n b
 |_+1,c=>c
theorem wD (a b:aH):at_ 0 (.seq a b)=a:=rfl
theorem wM (n:Nat) (a b:aH):at_ (n+1) (.seq a b)=at_ n b:=rfl
theorem yL (c:aH):DO 0 c=c:=rfl
theorem yK (n:Nat) (a b:aH):DO (n+1) (.seq a b)=DO n b:=rfl
theorem zI {h:H} {id i:Nat} (e:¬i=id):(h.del id).get i=h.get i:=by rw[H.eh,if_neg e]
theorem Bw (h:H):h.dY.next=h.next:=uW rfl rfl
theorem Bp (h:H):h.dY.floor=h.next:=uW rfl rfl
theorem Br (h:H) (i:Nat):h.dY.get i=h.get i:=uW rfl rfl
theorem EW (h:H) (i:Nat):(h.del i).next=h.next:=uW rfl rfl
theorem EO (h:H) (i:Nat):(h.del i).floor=h.floor:=uW rfl rfl
theorem vO {h:H} {cs:List AV} {i:Nat} (e:i=h.next):(h.alloc cs).get i=some cs:=by rw[H.aX,if_pos e]
theorem vS {h:H} {cs:List AV} {i:Nat} (e:¬i=h.next):(h.alloc cs).get i=h.get i:=by rw[H.aX,if_neg e]
theorem vP {h:H} {cs:List AV} {id i:Nat} (e:i=id):(h.set id cs).get i=(h.get i).map fun _=>cs:=by rw[H.dF,if_pos e,e]
theorem vL {h:H} {cs:List AV} {id i:Nat} (e:¬i=id):(h.set id cs).get i=h.get i:=by rw[H.dF,if_neg e]
def xY {α:Type} (b:Bool) (x:α):Option α:=if b then some x else none
theorem wL {α:Type} (x:α):xY true x=some x:=rfl
theorem KN (h:H) (id off n:Nat) (v cs:List AV):ur h id off n v (some cs)=xY (decide (h.floor≤id)&&(decide (v.length=n)&&(decide (off+n≤cs.length)&&AV.aB v))) (h.set id (setFrom cs off v)):=by
 simp only[ur,uZ,xY]
 by_cases c:h.floor≤id∧v.length=n∧off+n≤cs.length∧AV.aB v=true
 · rw[if_pos c];obtain⟨c1,c2,c3,c4⟩:=c;simp [c1,c2,c3,c4]
 · rw[if_neg c,if_neg];simpa using c
theorem CA (n:Nat) (cs:List AV) (off:Nat):ij true n cs off=xY (decide (off+n≤cs.length)) (.agg ((cs.drop off).take n)):=by
 simp only[ij,xY,if_true,Xh]
theorem JN (z:List AV):dZ z []=some z:=rfl
def FN (r:List (Nat×Nat×AV)) (p:Option (List AV)):Option (List AV):=p.bind fun z=>dZ z r
theorem HH (r:List (Nat×Nat×AV)) (z:List AV):FN r (some z)=dZ z r:=rfl
theorem JM (z:List AV) (o n:Nat) (v:AV) (r:List (Nat×Nat×AV)):dZ z ((o,n,v)::r)=FN r (xY (decide (v.cells.length=n)&&(decide (o+n≤z.length)&&AV.aB v.cells)) (setFrom z o v.cells)):=by
 simp only[dZ,xY]
 by_cases c:v.cells.length=n∧o+n≤z.length∧AV.aB v.cells=true
 · rw[if_pos c];obtain⟨c1,c2,c3⟩:=c;simp [c1,c2,c3,FN]
 · rw[if_neg c,if_neg]; · rfl
   simpa using c
def Fs (p:Option (List AV)) (f:Nat→AV):Option (List AV×(Nat→AV)):=p.bind fun cs=>some (cs,f)
theorem AQ (cs:List AV) (f:Nat→AV):Fs (some cs) f=some (cs,f):=rfl
theorem yH (e:Env) (z:List AV):aZ e (.alloc z)=Fs (xY (AV.aB z) z) (fun i=>.aC i 0):=by
 simp only[aZ,xY];split<;>rfl
theorem Cu (e:Env) (n:Nat) (x:X):aZ e (.box n x)=Fs (xY (decide ((x.ev e).cells.length=n)&&AV.aB (x.ev e).cells) (x.ev e).cells) (fun i=>.aC i 0):=by
 simp only[aZ,xY]
 by_cases c:(x.ev e).cells.length=n∧AV.aB (x.ev e).cells=true
 · rw[if_pos c];simp [c,Fs]
 · rw[if_neg c,if_neg]; · rfl
   simpa using c
theorem CN (e:Env) (sz len:Nat) (z:List AV) (ps:List (Nat×X)):aZ e (.cT sz len z ps)=Fs (FN (ps.map fun p=>(p.1* sz,sz,p.2.ev e)) (xY (decide (z.length=sz)&&(decide (0<sz)&&AV.aB z)) (dQ len z))) (fun i=>.aD i 0 len sz):=by
 simp only[aZ,xY]
 by_cases c:z.length=sz∧0<sz∧AV.aB z=true
 · rw[if_pos c];simp [c,Fs,FN]
 · rw[if_neg c,if_neg]; · rfl
   simpa using c
theorem Kr (z:List AV):dQ 0 z=[]:=rfl
theorem Kq (n:Nat) (z:List AV):dQ (n+1) z=z++dQ n z:=rfl
def RH (xt:List Nat) (e:Env) (h:H) (b:Bool):dL:=if b then some (.normal,ax e xt,h)else none
theorem JU (xt:List Nat) (e:Env) (h:H):RH xt e h true=some (.normal,ax e xt,h):=rfl
def VE (c:ae) (ops:List aj) (fl:List (Nat×List Nat)) (xt:List Nat) (p:Option (Env×H×List H)):dL:=p.bind fun q=>RH xt q.1 q.2.1 (bb c ops q.1 q.2.2 fl)
theorem Ms (c:ae) (ops:List aj) (fl:List (Nat×List Nat)) (xt:List Nat) (e:Env) (h:H) (gs:List H):VE c ops fl xt (some (e,h,gs))=RH xt e h (bb c ops e gs fl):=rfl
theorem Hh (c:ae) (l:bL) (ord:List Nat) (ops:List aj) (x:Nat×List Nat) (fl:List (Nat×List Nat)) (xt:List Nat) (e:Env) (h:H):aM c l (.iY ord ops (x::fl) xt) e h=VE c ops (x::fl) xt (aO c ops e h):=by
 rw[aM];rfl
theorem MP (c:ae) (ops:List aj) (e:Env) (gs:List H):bb c ops e gs []=true:=rfl
def Vb (c:ae) (ops:List aj) (e:Env) (gs:List H) (i:Nat) (ks:List Nat):Bool:=ks.all (bJ c ops e gs i)
theorem MO (c:ae) (ops:List aj) (e:Env) (gs:List H) (i:Nat) (ks:List Nat) (r:List (Nat×List Nat)):bb c ops e gs ((i,ks)::r)=(Vb c ops e gs i ks&&bb c ops e gs r):=rfl
theorem MM (c:ae) (ops:List aj) (e:Env) (gs:List H) (i:Nat):Vb c ops e gs i []=true:=rfl
def B0 (c : ae) (e : Env) (o : Option aj) (g : Option H) : Bool := match o, g with
 | some o, some g =>
   if o.op.aJ then
    match o.dst.map (look e)with
    |some (.bP [])=>true
    | some v => (match v.id?, aZ e o.op with
      |some id,some b=>(match g.get id with|some cs=>AV.fY cs b.1|none=>false)
      |_,_=>false)
    |none=>false
   else match o.dst.map (look e)with
    |some v=>(match ai c o e g with|some (u,_)=>AV.beq u v|none=>false)
    |none=>false
 |_,_=>false
theorem ML (c:ae) (ops:List aj) (e:Env) (gs:List H) (i k:Nat) (r:List Nat):Vb c ops e gs i (k::r)=(B0 c e (ops[i]?) (gs[k]?)&&Vb c ops e gs i r):=by
 unfold Vb
 rw[XG]
 congr 1
def Vw (v:AV) (p:Option (AV×H)):Bool:=match p with|some (u,_)=>AV.beq u v|none=>false
theorem MN (v u:AV) (h:H):Vw v (some (u,h))=AV.beq u v:=rfl
def Sv (b:Bool) (x y:Bool):Bool:=if b then x else y
theorem MJ (x y:Bool):Sv false x y=y:=rfl
def DN (c:ae) (e:Env) (o:Option aj) (g:Option H):Bool:=B0 c e o g
theorem MI (c:ae) (e:Env) (d:Nat) (op:bX) (g:H):B0 c e (some ⟨some d,op,none⟩) (some g)=Sv op.aJ (DN c e (some ⟨some d,op,none⟩) (some g)) (Vw (look e d) (ah c e g op)):=by
 unfold DN B0 Sv
 dsimp only
 cases op.aJ<;>rfl
theorem MH (c:ae) (e:Env) (d:Nat) (op:bX) (k:Nat) (w:Bool) (g:H):B0 c e (some ⟨some d,op,some (k,w)⟩) (some g)=Sv op.aJ (DN c e (some ⟨some d,op,some (k,w)⟩) (some g)) (Vw (look e d) (lB w c e g op (look e k))):=by
 unfold DN B0 Sv
 dsimp only
 cases op.aJ with
 |true=>rfl
 |false=>rw[mQ];rfl
mutual
theorem beq_refl:∀a:AV,AV.beq a a=true
 | .bot=>rfl
 | .bool b=>by simp [AV.beq]
 | .int k n=>by simp [AV.beq]
 | .str s=>Ct s
 | .cI=>rfl
 | .aC i o=>by simp [AV.beq]
 | .aL c o=>by simp [AV.beq,xR c]
 | .aQ=>rfl
 | .aD i o l z=>by simp [AV.beq]
 | .aW t c o l z=>by simp [AV.beq,xR c]
 | .fn f a b=>by simp [AV.beq,xR a,xR b]
 | .eV=>rfl
 | .iface t v=>by simp [AV.beq,beq_refl v]
 | .eW=>rfl
 | .agg c=>by simp [AV.beq,xR c]
 | .bP c=>by simp [AV.beq,xR c]
theorem xR:∀l:List AV,AV.fY l l=true
 |[]=>rfl
 |a::l=>by simp [AV.fY,beq_refl a,xR l]
end
theorem MK (x y:Bool):Sv true x y=x:=rfl
def SI (c:Option (List AV)) (d:List AV):Bool:=match c with|some cs=>AV.fY cs d|none=>false
theorem Mo (c d:List AV):SI (some c) d=AV.fY c d:=rfl
def Fb (v : AV) (b : Option (List AV × (Nat → AV))) (g : H) : Bool := match v with
 | .bP []=>true
 | v => match v.id?, b with
   |some id,some b=>SI (g.get id) b.1
   |_,_=>false
theorem KM (b:Option (List AV×(Nat→AV))) (g:H):Fb (.bP []) b g=true:=rfl
theorem KL (i o:Nat) (cs:List AV) (f:Nat→AV) (g:H):Fb (.aC i o) (some (cs,f)) g=SI (g.get i) cs:=rfl
theorem KK (i o l z:Nat) (cs:List AV) (f:Nat→AV) (g:H):Fb (.aD i o l z) (some (cs,f)) g=SI (g.get i) cs:=rfl
theorem CG {c : ae} {e : Env} {d : Nat} {op : bX} {gd : Option (Nat × Bool)} {g : H} (hb : op.aJ = true) : DN c e (some ⟨some d, op, gd⟩) (some g) = Fb (look e d) (aZ e op) g := by
 unfold DN B0
 dsimp only
 rw[hb,if_pos rfl]
 show (match some (look e d) with
  |some (.bP [])=>true
  | some v => (match v.id?, aZ e op with
    |some id,some b=>(match g.get id with|some cs=>AV.fY cs b.1|none=>false)
    |_,_=>false)
  |none=>false)=_
 generalize look e d=v
 unfold Fb SI
 cases v with
 |bP vs=>cases vs<;>rfl
 |_=>cases aZ e op<;>rfl
theorem DB (c:ae) (e:Env) (d:Nat) (z:List AV) (gd:Option (Nat×Bool)) (g:H):DN c e (some ⟨some d,.alloc z,gd⟩) (some g)=Fb (look e d) (aZ e (.alloc z)) g:=CG rfl
theorem Gp (c:ae) (e:Env) (d n:Nat) (x:X) (gd:Option (Nat×Bool)) (g:H):DN c e (some ⟨some d,.box n x,gd⟩) (some g)=Fb (look e d) (aZ e (.box n x)) g:=CG rfl
theorem Co (c:ae) (e:Env) (d n m:Nat) (z:List AV) (ps:List (Nat×X)) (gd:Option (Nat×Bool)) (g:H):DN c e (some ⟨some d,.cT n m z ps,gd⟩) (some g)=Fb (look e d) (aZ e (.cT n m z ps)) g:=CG rfl
theorem Ew (c:ae) (e:Env) (d n m:Nat) (z:List AV) (x y:X) (gd:Option (Nat×Bool)) (g:H):DN c e (some ⟨some d,.ja n m z x y,gd⟩) (some g)=Fb (look e d) (aZ e (.ja n m z x y)) g:=CG rfl
theorem Fm (b:Bool):AV.beq (.bool b) (.bool b)=true:=by simp [AV.beq]
theorem Fq:AV.beq (.bP []) (.bP [])=true:=rfl
theorem Fo:AV.beq .aQ .aQ=true:=rfl
theorem DP:AV.beq .cI .cI=true:=rfl
theorem JZ (sz id off len:Nat) (i:AV):fV sz (.aD id off len sz) i=uD id off sz (dd i len):=by simp [fV,uD]
theorem JY (t:Bool) (cells:List AV) (sz off len:Nat) (i:AV):fV sz (.aW t cells off len sz) i=uE cells off sz (dd i len):=by simp [fV,uE]
def En (n:Nat) (z:List AV):List AV:=dQ n z
def Mv (sz bytes:Nat) (zero:List AV) (l c:AV):Option (List AV×(Nat→AV)):=
 match l,c with
 | .int .i64 l,.int .i64 c=>Fs (xY (decide (0≤l)&&(decide (l≤c)&&(decide (c≤9223372036854775807)&&(decide ((bytes:Int)* c≤281474976710656)&&(decide (zero.length=sz)&&(decide (0<sz)&&AV.aB zero)))))) (En c.toNat zero)) (fun i=>.aD i 0 l.toNat sz)
 |_,_=>none
theorem EU (sz bytes:Nat) (zero:List AV) (l c:Int):Mv sz bytes zero (.int .i64 l) (.int .i64 c)=Fs (xY (decide (0≤l)&&(decide (l≤c)&&(decide (c≤9223372036854775807)&&(decide ((bytes:Int)* c≤281474976710656)&&(decide (zero.length=sz)&&(decide (0<sz)&&AV.aB zero)))))) (En c.toNat zero)) (fun i=>.aD i 0 l.toNat sz):=rfl
theorem Fu (e : Env) (sz bytes : Nat) (zero : List AV) (l c : X) : aZ e (.ja sz bytes zero l c) = Mv sz bytes zero (l.ev e) (c.ev e) := by
 simp only[aZ]
 cases l.ev e with
 | int k l => cases k <;> cases c.ev e with
   | int k2 c => cases k2 <;> first
     |rfl
     | (simp only [EU, xY]
        by_cases q:0≤l∧l≤c∧c≤9223372036854775807∧(bytes:Int)* c≤281474976710656∧zero.length=sz∧0<sz∧AV.aB zero=true
        · rw[if_pos q];obtain⟨q1,q2,q3,q4,q5,q6,q7⟩:=q
          rw[if_pos]
          · rfl
          · simp [q1,q2,q3,q4,q5,q6,q7]
        · rw[if_neg q,if_neg]
          · rfl
          · simpa using q)
   |_=>rfl
 |_=>cases c.ev e<;>rfl
theorem Jm (i o l z:Nat):ji false (.aD i o l z)=some (.int .i64 l):=rfl
theorem Jl:ji false .aQ=some (.int .i64 0):=rfl
theorem Jk (t:Bool) (c:List AV) (o l z:Nat):ji false (.aW t c o l z)=some (.int .i64 l):=rfl
theorem Bc (s:ByteArray):ji true (.str s)=some (.int .i64 s.size):=rfl
theorem KU (a b:Nat):((a:Int)+(b:Int)).toNat=a+b:=by omega
theorem xI (a:Nat):((a:Int)).toNat=a:=by omega
def y6 (s:ByteArray) (i:Nat):Nat:=((s[i]?).map (·.toNat)).getD 0
theorem Ah (s:ByteArray) (i:Nat):y6 s i<256:=by
 unfold y6
 cases s[i]? with
 |none=>simp
 |some b=>simp;exact b.toNat_lt
theorem Cz {s:ByteArray} {i:Int} (h:0≤i∧i<s.size):mr (.str s) (.int .i64 i)=some (.int .u8 (y6 s i.toNat:Nat)):=by
 have hi:i.toNat<s.size:=by omega
 simp [mr,Su h,y6,hi]
def BX {α:Type} (b:Bool) (x y:Option α):Option α:=if b then x else y
theorem Kx {α:Type} (x y:Option α):BX true x y=x:=rfl
theorem Kw {α:Type} (x y:Option α):BX false x y=y:=rfl
def Sl (n o k:Nat) (p:Option (List AV)):Option (Nat×List AV):=p.bind fun cs=>xY (decide (o+k* n≤cs.length)) (k,(cs.drop o).take (k* n))
theorem KJ (n o k:Nat) (cs:List AV):Sl n o k (some cs)=xY (decide (o+k* n≤cs.length)) (k,(cs.drop o).take (k* n)):=rfl
theorem MF (h:H) (n p o k:Nat):aT h n (.aD p o k n)=Sl n o k (h.get p):=by
 simp only[aT,if_true,Sl]
 cases h.get p with
 |none=>rfl
 |some cs=>simp only[uZ,xY,Xh]
theorem MD (h:H) (t:Bool) (n o k:Nat) (cs:List AV):aT h n (.aW t cs o k n)=xY (decide (o+k* n≤cs.length)) (k,(cs.drop o).take (k* n)):=by
 simp only[aT,if_true,xY,Xh]
theorem ME (h:H) (n:Nat):aT h n .aQ=some (0,[]):=uW rfl rfl
theorem MG (h:H) (s:ByteArray):aT h 1 (.str s)=some (s.size,s.data.toList.map fun b=>.int .u8 b.toNat):=uW rfl rfl
def SF (h:H) (n z:Nat) (a:AV) (p:Option (Nat×List AV)):Option (AV×H):=p.bind fun r=>dU h n z a r.1 r.2
theorem Jr (h:H) (n z:Nat) (a:AV) (m:Nat) (bs:List AV):SF h n z a (some (m,bs))=dU h n z a m bs:=rfl
theorem Ml (h:H) (n z:Nat) (a b:AV):kR h n z a b=SF h n z a (aT h n b):=uW rfl rfl
def Vi (h:H) (n z p o k m:Nat) (bs:List AV) (q:Option (List AV)):Option (AV×H):=q.bind fun cs=>
 BX (decide (o+(k+m)* n≤cs.length)) (some (.aD p o (k+m) n,h.set p (setFrom cs (o+k* n) bs))) (BX (decide (o+k* n=cs.length)&&roomy z (k+m)) (some (.aD h.next 0 (k+m) n,(h.del p).alloc (cs.drop o++bs))) none)
theorem Mi (h:H) (n z p o k m:Nat) (bs cs:List AV):Vi h n z p o k m bs (some cs)=BX (decide (o+(k+m)* n≤cs.length)) (some (.aD p o (k+m) n,h.set p (setFrom cs (o+k* n) bs))) (BX (decide (o+k* n=cs.length)&&roomy z (k+m)) (some (.aD h.next 0 (k+m) n,(h.del p).alloc (cs.drop o++bs))) none):=rfl
theorem Mk (h : H) (n z p o k m : Nat) (bs : List AV) : dU h n z (.aD p o k n) m bs = BX (decide (m = 0)) (some (.aD p o k n, h)) (BX (AV.aB bs && (decide (0 < n) && decide (h.floor ≤ p))) (Vi h n z p o k m bs (h.get p)) none) := by
 unfold dU BX
 by_cases c:m=0
 · simp [c]
 · rw [if_neg c]
   simp only[Xh,if_neg c]
   by_cases c1:AV.aB bs=false∨n=0
   · rw[if_pos c1,if_neg]
     rcases c1 with c1|c1
     · simp [c1]
     · simp [c1]
   · rw[if_neg c1]
     have q1:AV.aB bs=true:=by cases q:AV.aB bs with|true=>rfl|false=>exact absurd (.inl q) c1
     by_cases c2:h.floor≤p
     · have qq:(AV.aB bs&&(decide (0<n)&&decide (h.floor≤p)))=true:=by simp [q1,c2];omega
       simp only[true_and,if_pos c2,qq,if_true,Vi,BX]
       cases h.get p with
       |none=>rfl
       |some cs=>simp only[uZ,Xh,u9]
     · have qq:(AV.aB bs&&(decide (0<n)&&decide (h.floor≤p)))=false:=by simp [c2]
       simp only[true_and,if_neg c2,qq];rfl
theorem Mj (h:H) (n z m:Nat) (bs:List AV):dU h n z .aQ m bs=BX (decide (m=0)) (some (.aQ,h)) (BX (AV.aB bs&&(decide (0<n)&&roomy z m)) (some (.aD h.next 0 m n,h.alloc bs)) none):=by
 unfold dU BX
 by_cases c:m=0
 · simp [c]
 · rw[if_neg c]
   simp only[Xh,if_neg c]
   by_cases c1:AV.aB bs=false∨n=0
   · rw[if_pos c1,if_neg]
     rcases c1 with c1|c1
     · simp [c1]
     · simp [c1]
   · rw[if_neg c1]
     have q1:AV.aB bs=true:=by cases q:AV.aB bs with|true=>rfl|false=>exact absurd (.inl q) c1
     have q2:0<n:=by omega
     simp [q1,q2]
theorem HY {b n:Nat} (h:1≤b∧(n+n/4+512)* b≤281474976710656):roomy b n=true:=by simp only[roomy,h.1,h.2,and_self,decide_true]
theorem Va {h:H} {n p o k:Nat} {m:Int} {cs:List AV} (hg:h.get p=some cs) (hn:0<n) (hk:o+k* n≤cs.length) (hm:0≤m∧m.toNat≤(cs.length-o)/n):sq h n (.aD p o k n) none (some (.int .i64 m)) none=some (.aD p o m.toNat n):=by
 have h1:k≤(cs.length-o)/n:=by rw[Nat.le_div_iff_mul_le hn];omega
 simp only[sq,hn,and_self,if_true,hg,uZ,aA]
 rw[if_pos ⟨by omega,h1⟩]
 have h3:kz (.int .i64 m) ((cs.length-o)/n)=some m.toNat:=by
  simp only[kz,nM,uZ]
  rw[if_pos]
  omega
 simp [h3]
theorem yS {α:Type} {C:α→List AV} {n:Nat} (hC:∀x,(C x).length=n):∀{l:List α} {i f:Nat} {x:α},l[i]?=some x→f<n→(l.flatMap C)[i* n+f]?=(C x)[f]?
 |[],i,f,x,h,_=>by simp at h
 | y :: l, 0, f, x, h, hf => by
   obtain rfl:y=x:=by simpa using h
   rw[List.flatMap_cons,Nat.zero_mul,vk,List.getElem?_append_left (by rw[hC];exact hf)]
 | y :: l, i + 1, f, x, h, hf => by
   rw[List.flatMap_cons,List.getElem?_append_right (by rw[hC,vB];omega),hC]
   rw[show(i+1)* n+f-n=i* n+f by rw[vB];omega]
   exact yS hC (by simpa using h) hf
theorem GU {α:Type} {C:α→List AV} {n:Nat} (hC:∀x,(C x).length=n):∀l:List α,(l.flatMap C).length=l.length* n
 |[]=>by simp
 |y::l=>by rw[List.flatMap_cons,vF,hC,GU hC l,W9,vB];omega
theorem Cy {α:Type} {C:α→List AV} {n:Nat} (hC:∀x,(C x).length=n):∀{l:List α} {i:Nat} {x:α},l[i]?=some x→((l.flatMap C).drop (i* n)).take n=C x
 |[],i,x,h=>by simp at h
 | y :: l, 0, x, h => by
   obtain rfl:y=x:=by simpa using h
   rw[List.flatMap_cons,Nat.zero_mul,Xf,List.take_append_of_le_length (by rw[hC];omega),vA (by rw[hC];omega)]
 | y :: l, i + 1, x, h => by
   rw[List.flatMap_cons,List.drop_append,List.drop_of_length_le (by rw[hC,vB];omega),List.nil_append,hC,show(i+1)* n-n=i* n by rw[vB];omega]
   exact Cy hC (by simpa using h)
def xo (n:Nat) (h:H) (v:AV) (k:Nat) (cs:List AV):Prop:=aT h n v=some (k,cs)∧cs.length=k* n∧∀s,v≠.str s
theorem Rd.Bb {h:H} {v:AV} {cs:List AV} (r:Rd h v cs):xo 1 h v cs.length cs:=⟨r.1,by omega,r.2⟩
theorem xo.len {n:Nat} {h:H} {v:AV} {k:Nat} {cs:List AV} (r:xo n h v k cs):ji false v=some (.int .i64 k):=by
 obtain⟨r,_,hs⟩:=r
 unfold aT at r
 split at r
 · obtain⟨h1,h2⟩:=uU (uS r);subst h1;rfl
 · exact absurd rfl (hs _)
 · split at r
   · simp only[uR]at r
     obtain⟨c,_,r⟩:=r
     split at r
     · obtain⟨h1,h2⟩:=uU (uS r);simp [ji,h1]
     · cases r
   · cases r
 · split at r
   · split at r
     · obtain⟨h1,h2⟩:=uU (uS r);simp [ji,h1]
     · cases r
   · cases r
 · cases r
theorem xo.mono {n:Nat} {h g:H} {v:AV} {k:Nat} {cs:List AV} (r:xo n h v k cs) (hg:∀id c,h.get id=some c→g.get id=some c):xo n g v k cs:=by
 obtain⟨r,hl,hs⟩:=r
 refine⟨?_,hl,hs⟩
 unfold aT at r ⊢
 split at r
 · exact r
 · exact r
 · split at r
   · rename_i q;simp only[if_pos q,uR]at r ⊢
     obtain⟨c,h1,r⟩:=r
     exact⟨c,hg _ _ h1,r⟩
   · cases r
 · exact r
 · cases r
theorem xo.at_ {n : Nat} {h : H} {v : AV} {k : Nat} {cs : List AV} (r : xo n h v k cs) : ∃ ad : Int → Nat → AV,
 (∀i:Int,0≤i∧i<k→fV n v (.int .i64 i)=some (ad i 0))∧
 (∀(i:Int) (f g:Nat),0≤i∧i<k→fk g (ad i f)=some (ad i (f+g)))∧
 (∀(i:Int) (f:Nat) (g:H),0≤i∧i<k→jF g (ad i f)=some (ad i f,g))∧
 (∀g:H,(∀id c,h.get id=some c→g.get id=some c)→(∀(i:Int) (f:Nat) (c:AV),0≤i∧i<k→cs[i.toNat* n+f]?=some c→bU false 1 (ad i f) g=some c)∧
   ∀i:Int,0≤i∧i<k→bU true n (ad i 0) g=some (.agg ((cs.drop (i.toNat* n)).take n))):=by
 obtain⟨r,hl,hs⟩:=r
 unfold aT at r
 split at r
 · obtain⟨h1,h2⟩:=uU (uS r);subst h1
   exact⟨fun _ _=>.bot,fun i hi=>by omega,fun i f g hi=>by omega,fun i f g hi=>by omega,fun g _=>⟨fun i f c hi=>by omega,fun i hi=>by omega⟩⟩
 · exact absurd rfl (hs _)
 · rename_i id off len s
   split at r
   · rename_i q
     subst q
     simp only[uR]at r
     obtain⟨d,hd,r⟩:=r
     split at r
     · rename_i hle
       obtain⟨h1,h2⟩:=uU (uS r)
       subst h1
       have bnd:∀i:Int,0≤i∧i<len→i.toNat* s+s≤len* s:=fun i hi=>by
        have:=vh s (show i.toNat+1≤len by omega);rw[vB]at this;omega
       refine⟨fun i f=>.aC id (off+i.toNat* s+f),fun i hi=>by simp [fV,Su hi],fun i f g _=>by simp [fk];omega,fun i f g _=>rfl,fun g hg=>⟨fun i f c hi hc=> ?_,fun i hi=> ?_⟩⟩
       · simp only[bU,hg _ _ hd,uZ,ij,u0,vG]
         rw[←h2,vE]at hc
         split at hc
         · rw[vt]at hc;rw[u5];exact hc
         · cases hc
       · have:=bnd i hi
         simp only[bU,hg _ _ hd,uZ,ij,if_true,Xq]
         rw[if_pos (by omega),←h2,List.drop_take,List.take_take,List.drop_drop,Nat.min_eq_left (by omega)]
     · cases r
   · cases r
 · rename_i t cells off len s
   split at r
   · rename_i q
     subst q
     split at r
     · rename_i hle
       obtain⟨h1,h2⟩:=uU (uS r)
       subst h1
       have bnd:∀i:Int,0≤i∧i<len→i.toNat* s+s≤len* s:=fun i hi=>by
        have:=vh s (show i.toNat+1≤len by omega);rw[vB]at this;omega
       refine⟨fun i f=>.aL cells (off+i.toNat* s+f),fun i hi=>by simp [fV,Su hi],fun i f g _=>by simp [fk];omega,fun i f g _=>rfl,fun g hg=>⟨fun i f c hi hc=> ?_,fun i hi=> ?_⟩⟩
       · simp only[bU,ij,u0,vG]
         rw[←h2,vE]at hc
         split at hc
         · rw[vt]at hc;rw[u5];exact hc
         · cases hc
       · have:=bnd i hi
         simp only[bU,ij,if_true,Xq]
         rw[if_pos (by omega),←h2,List.drop_take,List.take_take,List.drop_drop,Nat.min_eq_left (by omega)]
     · cases r
   · cases r
 · cases r
def wo (n:Nat) (h:H) (v:AV) (k:Nat) (cs:List AV):Prop:=cs.length=k* n∧((v=.aQ∧k=0)∨∃id,v=.aD id 0 k n∧h.get id=some cs∧h.floor≤id∧0<k)
theorem wo.nil {n:Nat} {h:H}:wo n h .aQ 0 []:=⟨by simp,.inl ⟨rfl,rfl⟩⟩
theorem wo.mono {n:Nat} {h g:H} {v:AV} {k:Nat} {cs:List AV} (o:wo n h v k cs) (hf:g.floor=h.floor) (hg:∀i,v.id?=some i→g.get i=h.get i):wo n g v k cs:=by
 obtain⟨l,o⟩:=o
 refine⟨l, ?_⟩
 rcases o with o|⟨id,rfl,h1,h2,h3⟩
 · exact .inl o
 · exact .inr ⟨id,rfl,by rw[hg id rfl];exact h1,by rw[hf];exact h2,h3⟩
theorem wo.sc {n:Nat} {h:H} {v:AV} {k:Nat} {cs:List AV} (o:wo n h v k cs):v.sc=true:=by
 rcases o.2 with ⟨rfl,_⟩|⟨id,rfl,_⟩<;>rfl
theorem wo.lt {n:Nat} {h:H} {v:AV} {k:Nat} {cs:List AV} (o:wo n h v k cs) {i:Nat} (hi:v.id?=some i):h.floor≤i∧i<h.next:=by
 rcases o.2 with ⟨rfl,_⟩|⟨id,rfl,h1,h2⟩
 · cases hi
 · obtain rfl:=uS hi;exact⟨h2.1,h.lt _ _ h1⟩
theorem wo.rd {n:Nat} {h:H} {v:AV} {k:Nat} {cs:List AV} (o:wo n h v k cs):xo n h v k cs:=by
 obtain⟨l,o⟩:=o
 rcases o with ⟨rfl,rfl⟩|⟨id,rfl,h1,h2⟩
 · have:cs=[]:=Xm (by omega)
   subst this
   exact⟨rfl,by simp,fun _=>by simp⟩
 · refine⟨?_,l,fun _=>by simp⟩
   simp only[aT,if_true,h1,uZ,vk]
   rw[if_pos (by omega),Xf,vA (by omega)]
theorem wo.app {n:Nat} {h:H} {v:AV} {k:Nat} {cs:List AV} (o:wo n h v k cs) (hfn:h.floor≤h.next) {z m:Nat} (hm:0<m) (hn:0<n) (bs:List AV) (hb:bs.length=m* n) (hc:AV.aB bs=true) (hr:roomy z (k+m)=true):
 ∃v' h',dU h n z v m bs=some (v',h')∧wo n h' v' (k+m) (cs++bs)∧h'.floor=h.floor∧h.next≤h'.next∧(∀i,v.id?≠some i→i≠h.next→h'.get i=h.get i)∧v'.id?=some h.next:=by
 obtain⟨hl,o⟩:=o
 have hll:(cs++bs).length=(k+m)* n:=by rw[vF,hl,hb,vB]
 rcases o with ⟨rfl,rfl⟩|⟨id,rfl,hg,hf,_⟩
 · have:cs=[]:=Xm (by omega)
   subst this
   refine⟨.aD h.next 0 m n,h.alloc bs, ?_,⟨hll,.inr ⟨h.next,by simp,by simp [H.aX],by simp;omega,by omega⟩⟩,by simp,by simp,fun i _ hi=>by rw[H.aX,if_neg hi],rfl⟩
   unfold dU
   rw[if_neg (by omega),if_neg (by simp [hc];omega)]
   rw[vk]at hr
   simp only[hr,if_true]
 · have hmn:0<m* n:=Nat.mul_pos hm hn
   have hnot:¬0+(k+m)* n≤cs.length:=by rw[hl,vB];omega
   refine⟨.aD h.next 0 (k+m) n,(h.del id).alloc (cs++bs), ?_,⟨hll,.inr ⟨h.next,by simp,by simp [H.aX], ?_,by omega⟩⟩,by simp,by simp,fun i h1 h2=> ?_,rfl⟩
   · unfold dU
     rw[if_neg (by omega),if_neg (by simp [hc];omega)]
     simp only[hf,and_self,if_true,hg,uZ]
     rw[if_neg hnot,if_pos ⟨by omega,hr⟩]
     simp
   · have:=h.lt id cs hg;simp;omega
   · rw[H.aX,H.jD,if_neg h2,H.eh,if_neg]
     intro e;subst e;exact h1 rfl
theorem wo.push {n:Nat} {h:H} {v:AV} {k:Nat} {cs:List AV} (o:wo n h v k cs) (hfn:h.floor≤h.next) {z m:Nat} (hm:0<m) (hn:0<n) (bs:List AV) (hb:bs.length=m* n) (hc:AV.aB bs=true) (hr:roomy z (k+m)=true):
 ∃v' h',kR (h.alloc bs) n z v (.aD h.next 0 m n)=some (v',h')∧wo n h' v' (k+m) (cs++bs)∧h'.floor=h.floor∧h.next+1≤h'.next∧(∀i,v.id?≠some i→i<h.next→h'.get i=h.get i)∧v'.id?=some (h.next+1):=by
 have o1:wo n (h.alloc bs) v k cs:=o.mono (by simp) fun i q=>by rw[H.aX,if_neg];have:=o.lt q;omega
 obtain⟨v',h',p1,p2,p3,p4,p5,p6⟩:=o1.app (z:=z) (by simp;omega) hm hn bs hb hc hr
 refine⟨v',h', ?_,p2,by rw[p3];simp,by simpa using p4,fun i q1 q2=> ?_,by simpa using p6⟩
 · have src:aT (h.alloc bs) n (.aD h.next 0 m n)=some (m,bs):=by
    simp only[aT,if_true,H.aX,uZ,vk]
    rw[if_pos (by omega),Xf,vA (by omega)]
   unfold kR;rw[src,uZ];exact p1
 · rw[p5 i q1 (by simp;omega),H.aX,if_neg (by omega)]
def BE (n k:Nat) (cs:List AV):AV:=if k=0 then .aQ else .aW false cs 0 k n
theorem A6 {n k:Nat} {h:H} {cs:List AV} (hl:cs.length=k* n):xo n h (BE n k cs) k cs:=by
 unfold BE
 by_cases hk:k=0
 · subst hk
   have:cs=[]:=Xm (by omega)
   subst this
   exact⟨rfl,by simp,fun _=>by simp⟩
 · rw[if_neg hk]
   refine⟨?_,hl,fun _=>by simp⟩
   simp only[aT,if_true,vk]
   rw[if_pos (by omega),Xf,vA (by omega)]
theorem wo.xV {n:Nat} {h:H} {v:AV} {k:Nat} {l:List Int} {fl m:Nat} {t:Bool} (o:wo n h v k (ints l)) (hf:fl≤h.floor):snap h.get fl (m+2) t v=some (BE n k (ints l)):=by
 obtain⟨hl,o⟩:=o
 rw[pP]at hl
 rcases o with ⟨rfl,rfl⟩|⟨id,rfl,q,h2,hk⟩
 · rfl
 · unfold snap
   rw[if_neg (by omega),q,uZ,if_pos (by rw[pP];omega)]
   rw[Xf,vA (by rw[pP];omega),xU]
   unfold BE
   rw[if_neg (by omega)];rfl
attribute [go_sem] List.map_cons List.map_nil Bool.and_true Bool.true_and Bool.and_self List.append_nil Option.map_some Option.map_none Bool.and_false Bool.false_and Bool.or_false Bool.or_true Bool.true_or Bool.false_or Bool.or_self bX.aP bX.aJ Int.reduceAdd Int.reduceSub Int.reduceMul Int.reduceNeg Int.reduceToNat List.take_succ_cons List.take_zero List.drop_zero List.drop_succ_cons Int.cast_ofNat_Int Int.natCast_one Int.natCast_zero List.length_set
theorem vN:type_of% @dt∧type_of% @df∧type_of% @VD∧type_of% @K2∧type_of% @K3∧type_of% @J9∧type_of% @wi∧type_of% @wb∧type_of% @Bc∧type_of% @Cz∧type_of% @KU∧type_of% @xI∧type_of% @Su∧type_of% @vO∧type_of% @vS∧type_of% @vP∧type_of% @vL∧type_of% @H.jx∧type_of% @H.kt∧type_of% @H.lr∧type_of% @H.jE∧type_of% @KN∧type_of% @wL∧type_of% @JN∧type_of% @JM∧type_of% @HH∧type_of% @CN∧type_of% @yH∧type_of% @Cu∧type_of% @AQ∧type_of% @Kq∧type_of% @Kr∧type_of% @pW∧type_of% @pt∧type_of% @rP∧type_of% @qh∧type_of% @JZ∧type_of% @JY∧type_of% @tc∧type_of% @td∧type_of% @Fu∧type_of% @EU∧type_of% @Jm∧type_of% @Jl∧type_of% @Jk∧type_of% @Hh∧type_of% @Ms∧type_of% @JU∧type_of% @MP∧type_of% @MO∧type_of% @MM∧type_of% @ML∧type_of% @MN∧type_of% @MJ∧type_of% @Cs∧type_of% @Fm∧type_of% @Fq∧type_of% @Fo∧type_of% @DP∧type_of% @Ct∧type_of% @Be∧type_of% @Fp∧type_of% @zL∧type_of% @BP∧type_of% @Kc∧type_of% @BN∧type_of% @BS∧type_of% @BR∧type_of% @MI∧type_of% @MH∧type_of% @ug∧type_of% @beq_refl∧type_of% @xR∧type_of% @MK∧type_of% @Mo∧type_of% @KM∧type_of% @KL∧type_of% @KK∧type_of% @DB∧type_of% @Gp∧type_of% @Co∧type_of% @Ew:=⟨@dt, @df, @VD, @K2, @K3, @J9, @wi, @wb, @Bc, @Cz, @KU, @xI, @Su, @vO, @vS, @vP, @vL, @H.jx, @H.kt, @H.lr, @H.jE, @KN, @wL, @JN, @JM, @HH, @CN, @yH, @Cu, @AQ, @Kq, @Kr, @pW, @pt, @rP, @qh, @JZ, @JY, @tc, @td, @Fu, @EU, @Jm, @Jl, @Jk, @Hh, @Ms, @JU, @MP, @MO, @MM, @ML, @MN, @MJ, @Cs, @Fm, @Fq, @Fo, @DP, @Ct, @Be, @Fp, @zL, @BP, @Kc, @BN, @BS, @BR, @MI, @MH, @ug, @beq_refl, @xR, @MK, @Mo, @KM, @KL, @KK, @DB, @Gp, @Co, @Ew⟩
theorem AK:type_of% @Bw∧type_of% @Br∧type_of% @Bp∧type_of% @EW∧type_of% @EO∧type_of% @zI∧type_of% @CA∧type_of% @Kx∧type_of% @Kw∧type_of% @KJ∧type_of% @MF∧type_of% @MD∧type_of% @ME∧type_of% @MG∧type_of% @Jr∧type_of% @Ml∧type_of% @Mi∧type_of% @Mk∧type_of% @Mj∧type_of% @HY∧type_of% @wD∧type_of% @wM∧type_of% @yL∧type_of% @yK:=⟨@Bw, @Br, @Bp, @EW, @EO, @zI, @CA, @Kx, @Kw, @KJ, @MF, @MD, @ME, @MG, @Jr, @Ml, @Mi, @Mk, @Mj, @HY, @wD, @wM, @yL, @yK⟩
theorem xk:type_of% @H.kt∧type_of% @H.jE∧type_of% @EW∧type_of% @Bw∧type_of% @H.jx∧type_of% @H.lr∧type_of% @EO∧type_of% @Bp:=⟨@H.kt, @H.jE, @EW, @Bw, @H.jx, @H.lr, @EO, @Bp⟩
theorem Ao:type_of% @vO∧type_of% @vS∧type_of% @vP∧type_of% @vL∧type_of% @zI∧type_of% @Br:=⟨@vO, @vS, @vP, @vL, @zI, @Br⟩
end Ab
set_option maxRecDepth 100000
namespace Ab
open Go
theorem wrap_u32 {n:Nat} (h:n<4294967296):IntKind.wrap .u32 (n:Int)=n:=by
 have e:IntKind.wrap .u32 (n:Int)=(n:Int)%4294967296:=by simp [IntKind.wrap,IntKind.bits,IntKind.signed]
 rw[e];omega
theorem Je (n:Int):IntKind.wrap .u32 n=n%4294967296:=by simp [IntKind.wrap,IntKind.bits,IntKind.signed]
theorem wu {n:Int} (h:0≤n∧n<4294967296):IntKind.wrap .u32 n=n:=by rw[Je];omega
theorem At {a b:Nat} (ha:a<4294967296) (hb:b<4294967296):a^^^b<4294967296:=Nat.xor_lt_two_pow (n:=32) ha hb
theorem y9 {a b:Nat} (ha:a<4294967296) (hb:b<4294967296):bits .xor .u32 (a:Int) (b:Int)=((a^^^b:Nat):Int):=by
 have h3:=At ha hb
 show IntKind.wrap .u32 (((BitVec.ofInt 32 (a:Int)^^^BitVec.ofInt 32 (b:Int)).toNat:Nat):Int)=_
 rw[BitVec.toNat_xor,yt 32 a (by omega),yt 32 b (by omega)]
 exact wrap_u32 h3
theorem CP {a:Nat} (ha:a<4294967296):bits .and .u32 (a:Int) 1=((a%2:Nat):Int):=by
 show IntKind.wrap .u32 (((BitVec.ofInt 32 (a:Int)&&&BitVec.ofInt 32 ((1:Nat):Int)).toNat:Nat):Int)=_
 rw[BitVec.toNat_and,yt 32 a (by omega),yt 32 1 (by omega),Nat.and_one_is_mod]
 exact wrap_u32 (by omega)
theorem H9 {a:Nat} (ha:a<4294967296):px .shr .u32 (a:Int) 1=some (.int .u32 ((a/2:Nat):Int)):=by
 unfold px
 rw[if_neg (by omega)]
 have e:(2:Int)^min (Int.toNat 1) IntKind.u32.bits=2:=by decide
 rw[e]
 show some (AV.int .u32 _)=_
 rw[Int.fdiv_eq_ediv_of_nonneg _ (by omega)]
 rfl
theorem ES {h:H} {a:Nat} (ha:a<4294967296):tg h (.int .u32 (a:Int))=some (.int .u32 ((4294967295-a:Nat):Int),h):=by
 rw[uj]
 have e:(if IntKind.u32.signed then-1 else IntKind.u32.max)=((4294967295:Nat):Int):=by decide
 rw[e,y9 (by omega) ha]
 have h2:4294967295^^^a=4294967295-a:=by
  have h1:a<2^32:=by simpa using ha
  have:4294967295-a=2^32-(a+1):=by omega
  rw[this]
  apply Nat.eq_of_testBit_eq
  intro i
  rw[Nat.testBit_two_pow_sub_succ h1,Nat.testBit_xor,show 4294967295=2^32-1 from rfl,Nat.testBit_two_pow_sub_one]
  by_cases hi:i<32
  · simp [hi]
  · have:a.testBit i=false:=Nat.testBit_lt_two_pow (Nat.lt_of_lt_of_le h1 (Xn (by omega) (by omega)))
    simp [hi,this]
 rw[h2]
def AX (c:Nat):Nat:=if c%2=1 then(c/2)^^^3988292384 else c/2
def Bn:Nat→Nat→Nat
 |0,c=>c
 |n+1,c=>Bn n (AX c)
def yY (c b:Nat):Nat:=Bn 8 (c^^^b)
def yI (s:ByteArray):Nat→Nat→Nat→Nat
 |0,_,c=>c
 |n+1,i,c=>yI s n (i+1) (yY c (y6 s i))
theorem BG {c:Nat} (h:c<4294967296):AX c<4294967296:=by
 unfold AX;split
 · exact At (by omega) (by omega)
 · omega
theorem CW:∀(n:Nat) {c:Nat},c<4294967296→Bn n c<4294967296
 |0,_,h=>h
 |n+1,_,h=>CW n (BG h)
theorem zZ {c b:Nat} (hc:c<4294967296) (hb:b<256):yY c b<4294967296:=CW 8 (At hc (by omega))
theorem BH (s:ByteArray):∀(n i:Nat) {c:Nat},c<4294967296→yI s n i c<4294967296
 |0,_,_,h=>h
 |n+1,i,_,h=>BH s n (i+1) (zZ h (Ah s i))
theorem D6 (a b d:AV) (h:H):∀(n c k:Nat),k+n=8→c<4294967296→
 ∃e',Lp AP.A [1,5,12,13,22] AP.f103L0 [(1,a),(5,.int .u32 c),(12,b),(13,d),(22,.int .i64 k)] h=some (.exit 2,e',h)∧look e' 1=a∧look e' 5=.int .u32 (Bn n c:Nat)∧look e' 12=b∧look e' 13=d
 | 0, c, k, hk, hc => by
   refine⟨[(1,a),(5,.int .u32 c),(12,b),(13,d),(22,.int .i64 k),(23,.bool false)],tF ?_,rfl,rfl,rfl,rfl⟩
   simp (disch:=omega)only[go_sem,vN,AP.f103L0]
 | n + 1, c, k, hk, hc => by
   obtain⟨e',r1,r2,r3,r4,r5⟩:=D6 a b d h n (AX c) (k+1) (by omega) (BG hc)
   have n1:((k+1:Nat):Int)=(k:Int)+1:=by omega
   have x1:=y9 (a:=c/2) (b:=3988292384) (by omega) (by omega)
   have a1:=CP hc
   have s1:=H9 hc
   refine⟨e',tG ?_ r1,r2,r3,r4,r5⟩
   rw[n1]
   unfold AX
   by_cases p:c%2=1
   · rw[if_pos p]
     rw[show((3988292384:Nat):Int)=3988292384 from rfl]at x1
     simp (disch:=omega)only[go_sem,vN,AP.f103L0,a1,s1,x1]
   · rw[if_neg p]
     simp (disch:=omega)only[go_sem,vN,AP.f103L0,a1,s1]
theorem D8 (s:ByteArray) (hs:s.size<1125899906842624) (h:H):∀(n i c:Nat),i+n=s.size→c<4294967296→
 ∃e',Lp AP.A [1,5,12,13] AP.f103L1 [(1,.str s),(5,.int .u32 c),(12,.int .i64 s.size),(13,.int .i64 i)] h=some (.exit 0,e',h)∧look e' 5=.int .u32 (yI s n i c:Nat)
 | 0, i, c, hi, hc => by
   refine⟨[(1,.str s),(5,.int .u32 c),(12,.int .i64 s.size),(13,.int .i64 i),(14,.bool false)],tF ?_,rfl⟩
   simp (disch:=omega)only[go_sem,vN,AP.f103L1]
 | n + 1, i, c, hi, hc => by
   have hb:=Ah s i
   obtain⟨e',r1,r2⟩:=D8 s hs h n (i+1) (yY c (y6 s i)) (by omega) (zZ hc hb)
   obtain⟨e1,q1,q2,q3,q4,q5⟩:=D6 (.str s) (.int .i64 s.size) (.int .i64 i) h 8 (c^^^y6 s i) 0 rfl (At hc (by omega))
   have q1':Lp AP.A [1,5,12,13,22] AP.f103L0 [(1,.str s),(5,.int .u32 (c^^^y6 s i:Nat)),(12,.int .i64 s.size),(13,.int .i64 i),(22,.int .i64 0)] h=some (.exit 2,e1,h):=q1
   clear q1
   have x1:=y9 hc (show y6 s i<4294967296 by omega)
   have n1:((i+1:Nat):Int)=(i:Int)+1:=by omega
   refine⟨e',tG ?_ r1,r2⟩
   rw[n1]
   unfold yY
   simp (disch:=omega)only[go_sem,vN,AP.f103L1,wu,x1,sF,q1',q2,q3,q4,q5]
def xN (a:Nat) (s:ByteArray):Nat:=4294967295-yI s s.size 0 (4294967295-a)
theorem Dc (a:Nat) (s:ByteArray):xN a s<4294967296:=by unfold xN;omega
theorem GZ (h:H) (s:ByteArray) (a:Nat) (ha:a<4294967296) (hs:s.size<1125899906842624):aS AP.A 103 [.int .i64 a,.str s] h=some (.int .i64 (xN a s:Nat),h):=by
 obtain⟨e',r1,r2⟩:=D8 s hs h.dY s.size 0 (4294967295-a) (by omega) (by omega)
 have r1':Lp AP.A [1,5,12,13] AP.f103L1 [(1,.str s),(5,.int .u32 (4294967295-a:Nat)),(12,.int .i64 s.size),(13,.int .i64 0)] h.dY=some (.exit 0,e',h.dY):=r1
 clear r1
 have lt:=BH s s.size 0 (c:=4294967295-a) (by omega)
 have v1:∀g:H,tg g (.int .u32 (a:Int))=some (.int .u32 ((4294967295-a:Nat):Int),g):=fun g=>ES ha
 have v2:∀g:H,tg g (.int .u32 (yI s s.size 0 (4294967295-a):Nat))=some (.int .u32 ((4294967295-yI s s.size 0 (4294967295-a):Nat):Int),g):=fun g=>ES lt
 refine uo (fn:=AP.f103) (h2:=h.dY) (e:=[(4,.int .i64 (xN a s:Nat))]) rfl rfl rfl ?_ rfl rfl
 unfold xN
 simp (disch:=omega)only[go_sem,vN,AP.f103,wu,v1,v2,sF,r1',r2]
def zm (x:Int):Bool:=decide (0≤x∧x≤4294967295)
theorem LB (h:H) (x:Int):aS AP.A 105 [.int .i64 x] h=some (.bool (zm x),h):=by
 refine uo (fn:=AP.f105) (h2:=h.dY) (e:=[(2,.bool (zm x))]) rfl rfl rfl ?_ rfl rfl
 unfold zm
 by_cases c1:0≤x
 · by_cases c2:x≤4294967295
   · simp (disch:=omega)only[go_sem,vN,AP.f105]
   · simp (disch:=omega)only[go_sem,vN,AP.f105]
 · simp (disch:=omega)only[go_sem,vN,AP.f105]
def yo (s:ByteArray):Nat:=xN 0 s
theorem F5 (h:H) (s:ByteArray) (hs:s.size<1125899906842624):aS AP.A 115 [.str s] h=some (.int .i64 (yo s:Nat),h):=by
 have k1:=GZ h.dY s 0 (by omega) hs
 have k1':aS AP.A 103 [.int .i64 0,.str s] h.dY=some (.int .i64 (yo s:Nat),h.dY):=k1
 refine uo (fn:=AP.f115) (h2:=h.dY) (e:=[(2,.int .i64 (yo s:Nat))]) rfl rfl rfl ?_ rfl rfl
 simp (disch:=omega)only[go_sem,vN,AP.f115,k1']
theorem Ez (a d:AV) (h:H):∀(n c k:Nat),k+n=8→c<4294967296→
 ∃e',Lp AP.A [0,1,5,6] AP.f111L0 [(0,.int .u32 c),(1,a),(5,d),(6,.int .i64 k)] h=some (.exit 2,e',h)∧look e' 1=a∧look e' 0=.int .u32 (Bn n c:Nat)∧look e' 5=d
 | 0, c, k, hk, hc => by
   refine⟨[(0,.int .u32 c),(1,a),(5,d),(6,.int .i64 k),(20,.bool false)],tF ?_,rfl,rfl,rfl⟩
   simp (disch:=omega)only[go_sem,vN,AP.f111L0]
 | n + 1, c, k, hk, hc => by
   obtain⟨e',r1,r2,r3,r4⟩:=Ez a d h n (AX c) (k+1) (by omega) (BG hc)
   have n1:((k+1:Nat):Int)=(k:Int)+1:=by omega
   have x1:=y9 (a:=c/2) (b:=3988292384) (by omega) (by omega)
   have a1:=CP hc
   have s1:=H9 hc
   refine⟨e',tG ?_ r1,r2,r3,r4⟩
   rw[n1]
   unfold AX
   by_cases p:c%2=1
   · rw[if_pos p]
     rw[show((3988292384:Nat):Int)=3988292384 from rfl]at x1
     simp (disch:=omega)only[go_sem,vN,AP.f111L0,a1,s1,x1]
   · rw[if_neg p]
     simp (disch:=omega)only[go_sem,vN,AP.f111L0,a1,s1]
theorem EA (s:ByteArray) (hs:s.size<1125899906842624) (h:H):∀(n i c:Nat),i+n=s.size→c<4294967296→
 ∃e',Lp AP.A [0,1,5] AP.f111L1 [(0,.int .u32 c),(1,.str s),(5,.int .i64 i)] h=some (.exit 0,e',h)∧look e' 0=.int .u32 (yI s n i c:Nat)
 | 0, i, c, hi, hc => by
   refine⟨[(0,.int .u32 c),(1,.str s),(5,.int .i64 i),(10,.bool false)],tF ?_,rfl⟩
   simp (disch:=omega)only[go_sem,vN,AP.f111L1]
 | n + 1, i, c, hi, hc => by
   have hb:=Ah s i
   obtain⟨e',r1,r2⟩:=EA s hs h n (i+1) (yY c (y6 s i)) (by omega) (zZ hc hb)
   obtain⟨e1,q1,q2,q3,q4⟩:=Ez (.str s) (.int .i64 i) h 8 (c^^^y6 s i) 0 rfl (At hc (by omega))
   have q1':Lp AP.A [0,1,5,6] AP.f111L0 [(0,.int .u32 (c^^^y6 s i:Nat)),(1,.str s),(5,.int .i64 i),(6,.int .i64 0)] h=some (.exit 2,e1,h):=q1
   clear q1
   have x1:=y9 hc (show y6 s i<4294967296 by omega)
   have n1:((i+1:Nat):Int)=(i:Int)+1:=by omega
   refine⟨e',tG ?_ r1,r2⟩
   rw[n1]
   unfold yY
   simp (disch:=omega)only[go_sem,vN,AP.f111L1,wu,x1,sF,q1',q2,q3,q4]
theorem Sq (h:H) (s:ByteArray) (c:Nat) (hc:c<4294967296) (hs:s.size<1125899906842624):aS AP.A 111 [.int .u32 c,.str s] h=some (.int .u32 (yI s s.size 0 c:Nat),h):=by
 obtain⟨e',r1,r2⟩:=EA s hs h.dY s.size 0 c (by omega) hc
 have r1':Lp AP.A [0,1,5] AP.f111L1 [(0,.int .u32 c),(1,.str s),(5,.int .i64 0)] h.dY=some (.exit 0,e',h.dY):=r1
 clear r1
 refine uo (fn:=AP.f111) (h2:=h.dY) (e:=[(4,.int .u32 (yI s s.size 0 c:Nat))]) rfl rfl rfl ?_ rfl rfl
 simp (disch:=omega)only[go_sem,vN,AP.f111,sF,r1',r2]
theorem CV (h:H) (s:ByteArray) (hs:s.size<1125899906842624):aS AP.A 101 [.str s] h=some (.int .i64 (yo s:Nat),h):=by
 have k1:=Sq h.dY s 4294967295 (by omega) hs
 have k1':aS AP.A 111 [.int .u32 4294967295,.str s] h.dY=some (.int .u32 (yI s s.size 0 4294967295:Nat),h.dY):=k1
 have lt:=BH s s.size 0 (c:=4294967295) (by omega)
 have v2:∀g:H,tg g (.int .u32 (yI s s.size 0 4294967295:Nat))=some (.int .u32 (yo s:Nat),g):=fun g=>ES lt
 have lt2:=Dc 0 s
 unfold yo at v2 ⊢
 refine uo (fn:=AP.f101) (h2:=h.dY) (e:=[(2,.int .i64 (xN 0 s:Nat))]) rfl rfl rfl ?_ rfl rfl
 simp (disch:=omega)only[go_sem,vN,AP.f101,k1',v2]
theorem Gj {a s:Nat} (hs:s≤64):px .shr .i64 (a:Int) (s:Int)=some (.int .i64 ((a/2^s:Nat):Int)):=by
 unfold px
 rw[if_neg (by omega)]
 simp only[IntKind.bits,XC,Nat.min_eq_left hs]
 rw[Int.fdiv_eq_ediv_of_nonneg _ (Int.pow_nonneg (by omega))]
 simp
theorem GB (n:Nat):IntKind.wrap .u8 (n:Int)=((n%256:Nat):Int):=by rw[KZ];omega
def F0 (x i:Nat):Nat:=x/2^(8* i)%256
def wq (x k:Nat):List Nat:=(List.range k).map (F0 x)
theorem Ee (x k:Nat):wq x (k+1)=wq x k++[F0 x k]:=by simp [wq,List.range_succ]
theorem vZ (x k:Nat):(wq x k).length=k:=by simp [wq]
def DL (x k:Nat):ByteArray:=bytesOf (wq x k)
theorem Fl {h:H} {v:AV} {k:Nat} {l:List Nat} (o:wo 1 h v k (zD l)):ue h v (aT h 1 v)=some (.str (bytesOf l),h):=by
 rw[o.rd.1]
 simp only[ue,uZ,EH]
 rcases o.2 with ⟨rfl,_⟩|⟨id,rfl,_⟩<;>rfl
theorem zV (a b:List Nat):zD (a++b)=zD a++zD b:=by simp [zD]
theorem CS (x:Nat) (k:Nat) (hk:k≤8):∀(m i:Nat) (h:H) (ov:AV),i+m=k→wo 1 h ov i (zD (wq x i))→h.floor≤h.next→
 ∃e' h' ov',Lp AP.A [0,1,5,6] AP.f161L0 [(0,.int .i64 x),(1,.int .i64 k),(5,ov),(6,.int .i64 i)] h=some (.exit 0,e',h')∧look e' 5=ov'∧wo 1 h' ov' k (zD (wq x k))
 | 0, i, h, ov, hi, o, hf => by
   obtain rfl:i=k:=by omega
   refine⟨[(0,.int .i64 x),(1,.int .i64 i),(5,ov),(6,.int .i64 i),(9,.bool false)],h,ov,tF ?_,rfl,o⟩
   simp (disch:=omega)only[go_sem,vN,AP.f161L0]
 | m + 1, i, h, ov, hi, o, hf => by
   obtain⟨v',h',p1,p2,p3,p4,p5,p6⟩:=o.push hf (z:=1) (m:=1) (by omega) (by omega) (zD [F0 x i]) rfl rfl (by simp [roomy];omega)
   rw[←zV,←Ee]at p2
   obtain⟨e',h2,ov',r1,r2,r3⟩:=CS x k hk m (i+1) h' v' (by omega) p2 (by omega)
   have n1:((i+1:Nat):Int)=(i:Int)+1:=by omega
   have n2:(8:Int)* (i:Int)=((8* i:Nat):Int):=by omega
   have s1:=Gj (a:=x) (s:=8* i) (by omega)
   have w1:=GB (x/2^(8* i))
   simp only[zD,Xk,Xx,F0]at p1
   refine⟨e',h2,ov',tG ?_ r1,r2,r3⟩
   rw[n1]
   simp (disch:=omega)only[go_sem,vN,AP.f161L0,n2,s1,w1,p1]
theorem Bh (h:H) (x k:Nat) (hk:k≤8):aS AP.A 161 [.int .i64 x,.int .i64 k] h=some (.str (DL x k),h):=by
 obtain⟨e',h',ov',r1,r2,r3⟩:=CS x k hk k 0 h.dY .aQ (by omega) (by simpa [wq,zD]using wo.nil) (by simp)
 have r1':Lp AP.A [0,1,5,6] AP.f161L0 [(0,.int .i64 x),(1,.int .i64 k),(5,.aQ),(6,.int .i64 0)] h.dY=some (.exit 0,e',h'):=r1
 clear r1
 have b:=Fl r3
 refine uo (fn:=AP.f161) (h2:=h') (e:=[(4,.str (DL x k))]) rfl rfl rfl ?_ rfl rfl
 unfold DL
 simp (disch:=omega)only[go_sem,vN,AP.f161,sF,r1',r2,b]
theorem F1 (x k id:Nat) (hk:k≤8):∀(m i:Nat) (h:H),i+m=k→h.get id=some (zD (wq x i++List.replicate m 0))→h.floor≤id→
 ∃e' h',Lp AP.A [0,5,10,11] AP.f104L0 [(0,.int .i64 x),(5,.aD id 0 k 1),(10,.int .i64 k),(11,.int .i64 i)] h=some (.exit 0,e',h')∧look e' 5=.aD id 0 k 1∧h'.get id=some (zD (wq x k))∧h'.floor=h.floor
 | 0, i, h, hi, hg, hf => by
   obtain rfl:i=k:=by omega
   refine⟨[(0,.int .i64 x),(5,.aD id 0 i 1),(10,.int .i64 i),(11,.int .i64 i),(12,.bool false)],h,tF ?_,rfl,by simpa using hg,rfl⟩
   simp (disch:=omega)only[go_sem,vN,AP.f104L0]
 | m + 1, i, h, hi, hg, hf => by
   have g2:(h.set id (zD (wq x (i+1)++List.replicate m 0))).get id=some (zD (wq x (i+1)++List.replicate m 0)):=by rw[vP rfl,hg];rfl
   obtain⟨e',h',r1,r2,r3,r4⟩:=F1 x k id hk m (i+1) _ (by omega) g2 (by simpa using hf)
   have n1:((i+1:Nat):Int)=(i:Int)+1:=by omega
   have n2:(8:Int)* (i:Int)=((8* i:Nat):Int):=by omega
   have s1:=Gj (a:=x) (s:=8* i) (by omega)
   have w1:=GB (x/2^(8* i))
   have st:ur h id i 1 [.int .u8 ((x/2^(8* i)%256:Nat):Int)] (some (zD (wq x i++List.replicate (m+1) 0)))=some (h.set id (zD (wq x (i+1)++List.replicate m 0))):=by
    rw[uK hf (by simp [vZ]) rfl]
    congr 2
    rw[Ee,zV,zV,zV,List.set_append_right _ _ (by simp [vZ]),XF]
    simp [vZ,zD,List.replicate_succ,F0]
   refine⟨e',h',tG ?_ r1,r2,r3,by rw[r4];simp⟩
   rw[n1]
   simp (disch:=omega)only[go_sem,vN,AP.f104L0,n2,s1,w1,hg,st]
theorem AM (h:H) (x k:Nat) (hk:k≤8) (hk0:0<k):aS AP.A 104 [.int .i64 x,.int .i64 k] h=some (.str (DL x k),h):=by
 obtain⟨h1,eh1⟩:∃g,g=h.dY.alloc (En k [.int .u8 0]):=⟨_,rfl⟩
 have hz:En k [.int .u8 0]=zD (wq x 0++List.replicate k 0):=by
  unfold En;rw[E6];simp [zD,wq]
 have g1:h1.get h.next=some (zD (wq x 0++List.replicate k 0)):=by rw[eh1,vO (by simp),hz]
 obtain⟨e',h',r1,r2,r3,r4⟩:=F1 x k h.next hk k 0 h1 (by omega) g1 (by rw[eh1];simp)
 have r1':Lp AP.A [0,5,10,11] AP.f104L0 [(0,.int .i64 x),(5,.aD h.next 0 k 1),(10,.int .i64 k),(11,.int .i64 0)] h1=some (.exit 0,e',h'):=r1
 clear r1
 have o:wo 1 h' (.aD h.next 0 k 1) k (zD (wq x k)):=⟨by simp [vZ],.inr ⟨h.next,rfl,r3,by rw[r4,eh1];simp,hk0⟩⟩
 have b:=Fl o
 have hn:h.dY.next=h.next:=rfl
 refine uo (fn:=AP.f104) (h2:=h') (e:=[(4,.str (DL x k))]) rfl rfl rfl ?_ rfl rfl
 unfold DL
 simp (disch:=omega)only[go_sem,vN,AP.f104,sF,hn,←eh1,r1',r2,b]
theorem SD {k:IntKind} {i:Int} {n:Nat} (h:0≤i∧i<n):dd (.int k i) n=some i.toNat:=by simp [dd,nM,h]
def okB (b:Nat):Bool:=decide (97≤b∧b≤122∨48≤b∧b≤57∨b=46∨b=45∨b=95)
def yC (s:ByteArray):Nat→Nat→Bool
 |0,_=>false
 |n+1,i=>decide (i=y6 s n)||yC s n i
def LN:ByteArray:=⟨#[97,98,99,100,101,102,103,104,105,106,107,108,109,110,111,112,113,114,115,116,117,118,119,120,121,122,48,49,50,51,52,53,54,55,56,57,46,45,95]⟩
def bT (P:Nat→Bool):List AV:=nD 256 fun i=>.bool (P i)
theorem AO (P:Nat→Bool):(bT P).length=256:=by simp [bT]
theorem MU (P:Nat→Bool) {i:Nat} (h:i<256):(bT P)[i]?=some (.bool (P i)):=fT h
theorem MW (s:ByteArray) (n:Nat):(bT (yC s n)).set (y6 s n) (.bool true)=bT (yC s (n+1)):=by
 unfold bT
 rw[tW (Ah s n)]
 congr 1
 funext i
 have e:yC s (n+1) i=(decide (i=y6 s n)||yC s n i):=rfl
 rw[e]
 unfold uv
 by_cases h:i=y6 s n
 · simp [h]
 · simp [h]
theorem SG:bT (yC LN 39)=bT okB:=by
 unfold bT nD
 refine List.map_congr_left fun i hi=> ?_
 have hi':i<256:=List.mem_range.1 hi
 have:∀i,i<256→yC LN 39 i=okB i:=by decide+kernel
 rw[this i hi']
theorem Dg (g:Nat→Option (List AV)) (fl n:Nat) (t:Bool):∀l:List Bool,fK (snap g fl (n+1) t) (l.map .bool)=some (l.map .bool)
 |[]=>rfl
 | b :: l => by
   have:=Dg g fl n t l
   simp only[Xk,fK,this];rfl
theorem LG (g:Nat→Option (List AV)) (fl n:Nat) (t:Bool) (P:Nat→Bool):fK (snap g fl (n+1) t) (bT P)=some (bT P):=by
 have e:bT P=((List.range 256).map P).map .bool:=by unfold bT nD;rw[List.map_map];rfl
 rw[e];exact Dg g fl n t _
theorem Jt (e:Env):aZ e (.alloc [.bool false,.bool false,.bool false,.bool false,.bool false,.bool false,.bool false,.bool false,.bool false,.bool false,.bool false,.bool false,.bool false,.bool false,.bool false,.bool false,.bool false,.bool false,.bool false,.bool false,.bool false,.bool false,.bool false,.bool false,.bool false,.bool false,.bool false,.bool false,.bool false,.bool false,.bool false,.bool false,.bool false,.bool false,.bool false,.bool false,.bool false,.bool false,.bool false,.bool false,.bool false,.bool false,.bool false,.bool false,.bool false,.bool false,.bool false,.bool false,.bool false,.bool false,.bool false,.bool false,.bool false,.bool false,.bool false,.bool false,.bool false,.bool false,.bool false,.bool false,.bool false,.bool false,.bool false,.bool false,.bool false,.bool false,.bool false,.bool false,.bool false,.bool false,.bool false,.bool false,.bool false,.bool false,.bool false,.bool false,.bool false,.bool false,.bool false,.bool false,.bool false,.bool false,.bool false,.bool false,.bool false,.bool false,.bool false,.bool false,.bool false,.bool false,.bool false,.bool false,.bool false,.bool false,.bool false,.bool false,.bool false,.bool false,.bool false,.bool false,.bool false,.bool false,.bool false,.bool false,.bool false,.bool false,.bool false,.bool false,.bool false,.bool false,.bool false,.bool false,.bool false,.bool false,.bool false,.bool false,.bool false,.bool false,.bool false,.bool false,.bool false,.bool false,.bool false,.bool false,.bool false,.bool false,.bool false,.bool false,.bool false,.bool false,.bool false,.bool false,.bool false,.bool false,.bool false,.bool false,.bool false,.bool false,.bool false,.bool false,.bool false,.bool false,.bool false,.bool false,.bool false,.bool false,.bool false,.bool false,.bool false,.bool false,.bool false,.bool false,.bool false,.bool false,.bool false,.bool false,.bool false,.bool false,.bool false,.bool false,.bool false,.bool false,.bool false,.bool false,.bool false,.bool false,.bool false,.bool false,.bool false,.bool false,.bool false,.bool false,.bool false,.bool false,.bool false,.bool false,.bool false,.bool false,.bool false,.bool false,.bool false,.bool false,.bool false,.bool false,.bool false,.bool false,.bool false,.bool false,.bool false,.bool false,.bool false,.bool false,.bool false,.bool false,.bool false,.bool false,.bool false,.bool false,.bool false,.bool false,.bool false,.bool false,.bool false,.bool false,.bool false,.bool false,.bool false,.bool false,.bool false,.bool false,.bool false,.bool false,.bool false,.bool false,.bool false,.bool false,.bool false,.bool false,.bool false,.bool false,.bool false,.bool false,.bool false,.bool false,.bool false,.bool false,.bool false,.bool false,.bool false,.bool false,.bool false,.bool false,.bool false,.bool false,.bool false,.bool false,.bool false,.bool false,.bool false,.bool false,.bool false,.bool false,.bool false,.bool false,.bool false,.bool false,.bool false,.bool false,.bool false,.bool false,.bool false,.bool false,.bool false,.bool false,.bool false,.bool false])=some (bT fun _=>false,fun i=>.aC i 0):=rfl
theorem HS (s:ByteArray) (hs:s.size<100000) (h7:∀i,i<s.size→y6 s i<128) (id:Nat):∀(m n:Nat) (h:H),n+m=s.size→h.get id=some (bT (yC s n))→h.floor≤id→
 ∃e' h',Lp AP.A [0,2,4] AP.f127L0 [(0,.str s),(2,.aC id 0),(4,.int .i64 n)] h=some (.exit 0,e',h')∧look e' 2=.aC id 0∧h'.get id=some (bT (yC s s.size))∧h'.floor=h.floor
 | 0, n, h, hn, hg, hf => by
   obtain rfl:n=s.size:=by omega
   refine⟨[(0,.str s),(2,.aC id 0),(4,.int .i64 s.size),(9,.bool false)],h,tF ?_,rfl,hg,rfl⟩
   simp (disch:=omega)only[go_sem,vN,AP.f127L0]
 | m + 1, n, h, hn, hg, hf => by
   have g2:(h.set id (bT (yC s (n+1)))).get id=some (bT (yC s (n+1))):=by rw[vP rfl,hg];rfl
   obtain⟨e',h',r1,r2,r3,r4⟩:=HS s hs h7 id m (n+1) _ (by omega) g2 (by simpa using hf)
   have n1:((n+1:Nat):Int)=(n:Int)+1:=by omega
   have hb:=Ah s n
   have hb7:=h7 n (by omega)
   have ia:dd (.int .u8 (y6 s n:Nat)) 256=some (y6 s n):=by rw[SD (by omega)];rfl
   have st:ur h id (y6 s n) 1 [.bool true] (some (bT (yC s n)))=some (h.set id (bT (yC s (n+1)))):=by rw[uK hf (by rw[AO];exact hb) rfl,MW]
   refine⟨e',h',tG ?_ r1,r2,r3,by rw[r4];simp⟩
   rw[n1]
   generalize bT (yC s n)=T at *
   generalize bT (yC s (n+1))=T2 at *
   simp (disch:=omega)only[go_sem,vN,AP.f127L0,ia,hg,st]
theorem wH {h:H} {id n:Nat} {v cs:List AV} (hf:h.floor≤id) (hv:v.length=n) (hc:cs.length=n) (hs:AV.aB v=true):ur h id 0 n v (some cs)=some (h.set id v):=by
 rw[KN]
 have e:setFrom cs 0 v=v:=by
  have:=zA cs v [] [] (by omega)
  simpa using this
 simp [hf,hv,hc,hs,e,xY]
theorem Mn (P:Nat→Bool):AV.aB (bT P)=true:=by
 have e:bT P=((List.range 256).map P).map .bool:=by unfold bT nD;rw[List.map_map];rfl
 rw[e]
 generalize (List.range 256).map P=l
 induction l with
 |nil=>rfl
 |cons b l ih=>simp [ih]
theorem R9 (P:Nat→Bool):ij true 256 (bT P) 0=some (.agg (bT P)):=by
 simp only[ij,if_true]
 rw[if_pos (by rw[AO];omega),Xf,vA (by rw[AO];omega)]
theorem LI (h:H) (s:ByteArray) (hs:s.size<100000) (h7:∀i,i<s.size→y6 s i<128):aS AP.A 127 [.str s] h=some (.bP [.agg (bT (yC s s.size)),.bool true],h):=by
 obtain⟨h1,eh1⟩:∃g,g=h.dY.alloc (bT fun _=>false):=⟨_,rfl⟩
 have g1:h1.get h.next=some (bT (yC s 0)):=by rw[eh1,vO (by simp)];rfl
 obtain⟨e',h',r1,r2,r3,r4⟩:=HS s hs h7 h.next s.size 0 h1 (by omega) g1 (by rw[eh1];simp)
 have r1':Lp AP.A [0,2,4] AP.f127L0 [(0,.str s),(2,.aC h.next 0),(4,.int .i64 0)] h1=some (.exit 0,e',h'):=r1
 clear r1
 obtain⟨h2,eh2⟩:∃g,g=h'.set h.next (bT (yC s s.size)):=⟨_,rfl⟩
 have st:ur h' h.next 0 256 (bT (yC s s.size)) (some (bT (yC s s.size)))=some h2:=by
  rw[wH (by rw[r4,eh1];simp) (AO _) (AO _) (Mn _),eh2]
 have g2:h2.get h.next=some (bT (yC s s.size)):=by rw[eh2,vP rfl,r3];rfl
 have hn:h.dY.next=h.next:=rfl
 have rd:=R9 (yC s s.size)
 refine uo (fn:=AP.f127) (h2:=h2) (e:=[(2,.aC h.next 0),(3,.bool true)]) (vs:=[.agg (bT (yC s s.size)),.bool true]) rfl rfl rfl ?_ ?_ ?_
 · generalize bT (yC s s.size)=T at *
   simp (disch:=omega)only[go_sem,AP.f127,Jt,hn,←eh1,sF,r1',r2,r3,rd,st]
 · simp only[AP.f127,cM,nk,mU,qQ,g2,tu,rd,lF,ne_eq,Nat.reduceEqDiff,not_false_eq_true]
   rfl
 · show(fK (snap h2.get h.next 15 true) [.agg (bT (yC s s.size)),.bool true]).bind _=_
   have m1:snap h2.get h.next 15 true (.agg (bT (yC s s.size)))=some (.agg (bT (yC s s.size))):=by
    unfold snap;rw[LG];rfl
   simp only[fK,m1];rfl
theorem Mt (h:H) (id b:Nat) (P:Nat→Bool) (hg:h.get id=some (bT P)) (hb:b<256):aS AP.A 132 [.aC id 0,.int .u8 b] h=some (.bool (P b),h):=by
 have ia:dd (.int .u8 b) 256=some b:=by rw[SD (by omega)];congr 1
 have g:=MU P hb
 refine tT (fn:=AP.f132) (h2:=h) (e:=[(4,.bool (P b))]) (vs:=[.bool (P b)]) rfl rfl rfl ?_ rfl
 generalize bT P=T at *
 simp (disch:=omega)only[go_sem,vN,AP.f132,ia,hg,g]
theorem Js {s:ByteArray} {n:Nat} (hn:n≤s.size):nN (.str s) none (some (.int .i64 n))=some (.str (s.extract 0 n)):=K9 hn
theorem La {s:ByteArray} {n:Nat} (hn:n≤s.size):nN (.str s) (some (.int .i64 n)) none=some (.str (s.extract n s.size)):=by
 have:kz (.int .i64 n) s.size=some n:=Gi hn
 simp [nN,aA,this]
theorem Cw {s:ByteArray} {a b i:Nat} (hb:b≤s.size) (hi:a+i<b):y6 (s.extract a b) i=y6 s (a+i):=by
 have e:(s.extract a b)[i]?=s[a+i]?:=by
  show(s.extract a b).data[i]?=s.data[a+i]?
  rw[ByteArray.data_extract,Array.getElem?_extract]
  have:s.data.size=s.size:=rfl
  rw[if_pos (by omega)]
 unfold y6;rw[e]
theorem Bz {s:ByteArray} {a b:Nat} (hb:b≤s.size):(s.extract a b).size=b-a:=by simp [ByteArray.size_extract];omega
theorem HG (s:ByteArray):s.extract 0 s.size=s:=by
 apply ByteArray.ext
 rw[ByteArray.data_extract]
 exact Array.extract_size
theorem Lq (s:ByteArray) {n m:Nat} (hm:m≤n):(s.extract 0 n).extract 0 m=s.extract 0 m:=by
 apply ByteArray.ext
 rw[ByteArray.data_extract,ByteArray.data_extract,ByteArray.data_extract,Array.extract_extract]
 simp [hm]
theorem Du (id : Nat) (P : Nat → Bool) (h : H) (hg : h.get id = some (bT P)) : ∀ (n : Nat) (s : ByteArray), s.size = n → n < 100000 →
 ∃e' m,Lp AP.A [0,1] AP.f129L0 [(0,.str s),(1,.aC id 0)] h=some (.exit 0,e',h)∧look e' 0=.str (s.extract 0 m)∧m≤s.size∧(∀i,m≤i→i<s.size→P (y6 s i)=true)∧(0<m→P (y6 s (m-1))=false)
 | 0, s, hs, hn => by
   refine⟨[(0,.str s),(1,.aC id 0),(7,.bool false)],0,tF ?_, ?_,by omega,fun i h1 h2=>by omega,fun q=>by omega⟩
   · simp (disch:=omega)only[go_sem,vN,AP.f129L0]
   · show AV.str s=_
     congr 1
     have:=HG s
     rw[hs]at this
     exact this.symm
 | n + 1, s, hs, hn => by
   have hb:=Ah s n
   have k1:=Mt h id (y6 s n) P hg hb
   have n1:(s.size:Int)-1=(n:Int):=by omega
   have sl:=Js (s:=s) (n:=n) (by omega)
   by_cases c:P (y6 s n)=true
   · rw [c] at k1
     obtain⟨e',m,r1,r2,r3,r4,r5⟩:=Du id P h hg n (s.extract 0 n) (by rw[Bz (by omega)];omega) (by omega)
     rw[Bz (by omega)]at r3 r4
     refine⟨e',m,tG ?_ r1, ?_,by omega,fun i h1 h2=> ?_,fun q=> ?_⟩
     · simp (disch:=omega)only[go_sem,vN,AP.f129L0,n1,k1,sl]
     · rw[r2];congr 1;exact Lq s r3
     · by_cases hi:i=n
       · rw[hi];exact c
       · have:=r4 i h1 (by omega)
         rwa [Cw (by omega) (by omega),vk]at this
     · have:=r5 q
       rwa [Cw (by omega) (by omega),vk]at this
   · have c':P (y6 s n)=false:=by simpa using c
     rw[c']at k1
     refine⟨[(0,.str s),(1,.aC id 0),(15,.bool true)],s.size,tF ?_, ?_,u6 _,fun i h1 h2=>by omega,fun q=>by rw[hs];exact c'⟩
     · simp (disch:=omega)only[go_sem,vN,AP.f129L0,n1,k1]
     · show AV.str s=_
       congr 1
       exact(HG s).symm
theorem Pq (s:ByteArray) {n:Nat} (h:s.size=n+1):(s.extract 1 s.size).size=n:=by rw[Bz (u6 _)];omega
theorem D9 (id : Nat) (P : Nat → Bool) (h : H) (hg : h.get id = some (bT P)) : ∀ (n : Nat) (s : ByteArray), s.size = n → n < 100000 → (0 < n → P (y6 s (n - 1)) = false) →
 ∃e' r,Lp AP.A [0,1] AP.f128L0 [(0,.str s),(1,.aC id 0)] h=some (.exit 0,e',h)∧look e' 0=.str r∧(r.size=0↔n=0)
 | 0, s, hs, hn, hp => by
   refine⟨[(0,.str s),(1,.aC id 0),(7,.bool false)],s,tF ?_,rfl,by omega⟩
   simp (disch:=omega)only[go_sem,vN,AP.f128L0]
 | n + 1, s, hs, hn, hp => by
   have hb:=Ah s 0
   have k1:=Mt h id (y6 s 0) P hg hb
   have sl:nN (.str s) (some (.int .i64 1)) none=some (.str (s.extract 1 s.size)):=La (s:=s) (n:=1) (by omega)
   have ix:mr (.str s) (.int .i64 0)=some (.int .u8 (y6 s 0:Nat)):=Cz (by omega)
   by_cases c:P (y6 s 0)=true
   · rw[c]at k1
     have hn0:n≠0:=fun e=>by subst e;have:=hp (by omega);simp only[vk,Nat.sub_self]at this;rw[c]at this;cases this
     obtain⟨e',r,r1,r2,r3⟩:=D9 id P h hg n (s.extract 1 s.size) (Pq s hs) (by omega) (fun q=>by
      rw[Cw (u6 _) (by omega),show 1+(n-1)=n+1-1 by omega];exact hp (by omega))
     refine⟨e',r,tG ?_ r1,r2,by omega⟩
     clear hp
     simp (disch:=omega)only[go_sem,dt,df,Bc,AP.f128L0,k1,sl,ix,Xc,Xp]
   · have c':P (y6 s 0)=false:=by simpa using c
     rw[c']at k1
     refine⟨[(0,.str s),(1,.aC id 0),(12,.bool true)],s,tF ?_,rfl,by omega⟩
     clear hp
     simp (disch:=omega)only[go_sem,dt,df,Bc,AP.f128L0,k1,sl,ix,Xc,Xp]
def Bd (s:ByteArray):Bool:=(List.range s.size).all fun i=>okB (y6 s i)
theorem Di:LN.size=39:=rfl
theorem MV:bT (yC LN LN.size)=bT okB:=SG
theorem Vx (h:H) (s:ByteArray) (id:Nat) (P:Nat→Bool) (hg:h.get id=some (bT P)) (hs:s.size<100000) (hp:0<s.size→P (y6 s (s.size-1))=false):∃r,aS AP.A 128 [.str s,.aC id 0] h=some (.str r,h)∧(r.size=0↔s.size=0):=by
 obtain⟨e',r,r1,r2,r3⟩:=D9 id P h hg s.size s rfl hs hp
 refine⟨r,tT (fn:=AP.f128) (h2:=h) (e:=[(4,.str r)]) (vs:=[.str r]) rfl rfl rfl ?_ rfl,r3⟩
 clear hp
 simp only[go_sem,AP.f128,sF,r1,r2]
theorem Vy (h:H) (s:ByteArray) (id:Nat) (P:Nat→Bool) (hg:h.get id=some (bT P)) (hs:s.size<100000):
 ∃m,aS AP.A 129 [.str s,.aC id 0] h=some (.str (s.extract 0 m),h)∧m≤s.size∧(∀i,m≤i→i<s.size→P (y6 s i)=true)∧(0<m→P (y6 s (m-1))=false):=by
 obtain⟨e',m,r1,r2,r3,r4,r5⟩:=Du id P h hg s.size s rfl hs
 refine⟨m,tT (fn:=AP.f129) (h2:=h) (e:=[(4,.str (s.extract 0 m))]) (vs:=[.str (s.extract 0 m)]) rfl rfl rfl ?_ rfl,r3,r4,r5⟩
 simp only[go_sem,AP.f129,sF,r1,r2]
theorem Fc {a b:ByteArray} (h:a≠b):(a.data.toList==b.data.toList)=false:=by
 rw[beq_eq_false_iff_ne]
 intro e
 apply h
 apply ByteArray.ext
 exact Array.toList_inj.1 e
theorem Gs (a:ByteArray):(a.data.toList==a.data.toList)=true:=by simp
theorem Sp (h : H) (s : ByteArray) (h0 : 0 < s.size) (hs : s.size < 100000) : ∃ r, aS AP.A 124 [.str s, .str LN] h = some (.str r, h) ∧ (r.size = 0 ↔ Bd s = true) := by
 have m1:=LI h.dY LN (by rw[Di];omega) (by rw[Di];decide+kernel)
 rw[MV]at m1
 obtain⟨h1,eh1⟩:∃g,g=h.dY.alloc (bT fun _=>false):=⟨_,rfl⟩
 have hn:h.dY.next=h.next:=rfl
 have g1:h1.get h.next=some (bT fun _=>false):=by rw[eh1,vO (by simp)]
 obtain⟨h2,eh2⟩:∃g,g=h1.set h.next (bT okB):=⟨_,rfl⟩
 have st:ur h1 h.next 0 256 (bT okB) (some (bT fun _=>false))=some h2:=by
  rw[wH (by rw[eh1];simp) (AO _) (AO _) (Mn _),eh2]
 have g2:h2.get h.next=some (bT okB):=by rw[eh2,vP rfl,g1];rfl
 obtain⟨m,a1,a2,a3,a4⟩:=Vy h2 s h.next okB g2 hs
 have sz:=Bz (s:=s) (a:=0) (b:=m) a2
 obtain⟨r,b1,b2⟩:=Vx h2 (s.extract 0 m) h.next okB g2 (by omega) (fun q=>by
  rw[sz,Nat.sub_zero,Cw a2 (by omega),vk];exact a4 (by omega))
 refine⟨r, ?_, ?_⟩
 · have e1:br .eql (.str s) (.str ⟨#[]⟩)=some (.bool false):=by
    rw[y5,Fc];intro e;rw[e]at h0;exact absurd h0 (by decide)
   have e2:br .eql (.str LN) (.str ⟨#[]⟩)=some (.bool false):=by
    rw[y5,Fc];intro e;have:=Di;rw[e]at this;exact absurd this (by decide)
   have l2:ji true (.str LN)=some (.int .i64 39):=rfl
   refine uo (fn:=AP.f124) (h2:=h2) (e:=[(4,.str r)]) rfl rfl rfl ?_ rfl rfl
   clear a3 a4
   generalize bT okB=T at *
   generalize hT:(bT fun _=>false)=T0 at *
   have ba:∀e:Env,aZ e (.alloc [.bool false,.bool false,.bool false,.bool false,.bool false,.bool false,.bool false,.bool false,.bool false,.bool false,.bool false,.bool false,.bool false,.bool false,.bool false,.bool false,.bool false,.bool false,.bool false,.bool false,.bool false,.bool false,.bool false,.bool false,.bool false,.bool false,.bool false,.bool false,.bool false,.bool false,.bool false,.bool false,.bool false,.bool false,.bool false,.bool false,.bool false,.bool false,.bool false,.bool false,.bool false,.bool false,.bool false,.bool false,.bool false,.bool false,.bool false,.bool false,.bool false,.bool false,.bool false,.bool false,.bool false,.bool false,.bool false,.bool false,.bool false,.bool false,.bool false,.bool false,.bool false,.bool false,.bool false,.bool false,.bool false,.bool false,.bool false,.bool false,.bool false,.bool false,.bool false,.bool false,.bool false,.bool false,.bool false,.bool false,.bool false,.bool false,.bool false,.bool false,.bool false,.bool false,.bool false,.bool false,.bool false,.bool false,.bool false,.bool false,.bool false,.bool false,.bool false,.bool false,.bool false,.bool false,.bool false,.bool false,.bool false,.bool false,.bool false,.bool false,.bool false,.bool false,.bool false,.bool false,.bool false,.bool false,.bool false,.bool false,.bool false,.bool false,.bool false,.bool false,.bool false,.bool false,.bool false,.bool false,.bool false,.bool false,.bool false,.bool false,.bool false,.bool false,.bool false,.bool false,.bool false,.bool false,.bool false,.bool false,.bool false,.bool false,.bool false,.bool false,.bool false,.bool false,.bool false,.bool false,.bool false,.bool false,.bool false,.bool false,.bool false,.bool false,.bool false,.bool false,.bool false,.bool false,.bool false,.bool false,.bool false,.bool false,.bool false,.bool false,.bool false,.bool false,.bool false,.bool false,.bool false,.bool false,.bool false,.bool false,.bool false,.bool false,.bool false,.bool false,.bool false,.bool false,.bool false,.bool false,.bool false,.bool false,.bool false,.bool false,.bool false,.bool false,.bool false,.bool false,.bool false,.bool false,.bool false,.bool false,.bool false,.bool false,.bool false,.bool false,.bool false,.bool false,.bool false,.bool false,.bool false,.bool false,.bool false,.bool false,.bool false,.bool false,.bool false,.bool false,.bool false,.bool false,.bool false,.bool false,.bool false,.bool false,.bool false,.bool false,.bool false,.bool false,.bool false,.bool false,.bool false,.bool false,.bool false,.bool false,.bool false,.bool false,.bool false,.bool false,.bool false,.bool false,.bool false,.bool false,.bool false,.bool false,.bool false,.bool false,.bool false,.bool false,.bool false,.bool false,.bool false,.bool false,.bool false,.bool false,.bool false,.bool false,.bool false,.bool false,.bool false,.bool false,.bool false,.bool false,.bool false,.bool false,.bool false,.bool false,.bool false,.bool false,.bool false,.bool false,.bool false,.bool false,.bool false,.bool false,.bool false,.bool false,.bool false,.bool false])=some (T0,fun i=>.aC i 0):=fun e=>by rw[Jt,hT]
   simp (disch:=omega)only[go_sem,AP.f124,ba,hn,←eh1,e1,e2,l2,K2,m1,g1,st,a1,b1]
 · rw [b2, sz]
   unfold Bd
   rw[Xv]
   constructor
   · intro q i hi
     exact a3 i (by omega) (List.mem_range.1 hi)
   · intro q
     by_cases hm:m=0
     · omega
     · have:=a4 (by omega)
       rw[q (m-1) (List.mem_range.2 (by omega))]at this
       cases this
def JH:ByteArray:=⟨#[46]⟩
def FK:ByteArray:=⟨#[46,46]⟩
def wY (s:ByteArray):Bool:=decide (1≤s.size)&&(decide (s.size≤8)&&(Bd s&&(!(s.data.toList==JH.data.toList)&& !(s.data.toList==FK.data.toList))))
theorem J7 (h : H) (s : ByteArray) (hs : s.size < 1125899906842624) : aS AP.A 121 [.str s] h = some (.bool (wY s), h) := by
 refine uo (fn:=AP.f121) (h2:=h.dY) (e:=[(2,.bool (wY s))]) rfl rfl rfl ?_ rfl rfl
 unfold wY
 by_cases c1:1≤s.size
 · by_cases c2:s.size≤8
   · obtain⟨r,t1,t2⟩:=Sp h.dY s (by omega) (by omega)
     have t1':aS AP.A 124 [.str s,.str ⟨#[97,98,99,100,101,102,103,104,105,106,107,108,109,110,111,112,113,114,115,116,117,118,119,120,121,122,48,49,50,51,52,53,54,55,56,57,46,45,95]⟩] h.dY=some (.str r,h.dY):=t1
     have e1:br .eql (.str r) (.str ⟨#[]⟩)=some (.bool (Bd s)):=by
      rw[y5]
      by_cases q:Bd s=true
      · rw[q]
        have:r=⟨#[]⟩:=by
         apply ByteArray.ext
         exact Array.size_eq_zero_iff.1 (t2.2 q)
        rw[this,Gs]
      · have q':Bd s=false:=by simpa using q
        rw[q',Fc]
        intro e
        rw[e]at t2
        exact q (t2.1 rfl)
     have e2:br .neq (.str s) (.str ⟨#[46]⟩)=some (.bool (!(s.data.toList==JH.data.toList))):=BA _ _
     have e3:br .neq (.str s) (.str ⟨#[46,46]⟩)=some (.bool (!(s.data.toList==FK.data.toList))):=BA _ _
     clear t1 t2
     generalize (!(s.data.toList==JH.data.toList))=B2 at *
     generalize (!(s.data.toList==FK.data.toList))=B3 at *
     generalize Bd s=B1 at *
     cases B1<;>cases B2<;>cases B3<;>simp (disch:=omega)only[go_sem,vN,AP.f121,t1',e1,e2,e3]
   · simp (disch:=omega)only[go_sem,vN,AP.f121]
 · simp (disch:=omega)only[go_sem,vN,AP.f121]
theorem HU (b:Nat):okB b=true↔97≤b∧b≤122∨48≤b∧b≤57∨b=46∨b=45∨b=95:=by simp [okB]
def yM (s:ByteArray):Nat→Nat→Bool
 |0,_=>true
 |n+1,i=>okB (y6 s i)&&yM s n (i+1)
theorem CK (s:ByteArray):∀n i,yM s n i=(List.range n).all fun j=>okB (y6 s (i+j))
 |0,_=>rfl
 | n + 1, i => by
   rw[yM,CK s n (i+1),List.range_succ_eq_map,XG,List.all_map]
   simp only[Xq]
   congr 1
   refine Xy (fun f=>(List.range n).all f) ?_
   funext j
   simp only[Function.comp,Nat.succ_eq_add_one]
   rw[show i+(j+1)=i+1+j by omega]
theorem HT (s : ByteArray) (hs : s.size < 100000) (h : H) : ∀ (n i : Nat), i + n = s.size →
 (∃e',Lp AP.A [0,3] AP.f173L0 [(0,.str s),(3,.int .i64 i)] h=some (.exit 0,e',h)∧yM s n i=true)∨
 (∃e',Lp AP.A [0,3] AP.f173L0 [(0,.str s),(3,.int .i64 i)] h=some (.ret,e',h)∧look e' 2=.bool false∧yM s n i=false)
 | 0, i, hi => by
   left
   refine⟨[(0,.str s),(3,.int .i64 i),(24,.bool false)],tF ?_,rfl⟩
   simp (disch:=omega)only[go_sem,vN,AP.f173L0]
 | n + 1, i, hi => by
   have hb:=Ah s i
   have n1:((i+1:Nat):Int)=(i:Int)+1:=by omega
   have ix:mr (.str s) (.int .i64 i)=some (.int .u8 (y6 s i:Nat)):=by rw[Cz (by omega),xI]
   by_cases c:okB (y6 s i)=true
   · have e:yM s (n+1) i=yM s n (i+1):=by simp [yM,c]
     rw[e]
     have ih:=HT s hs h n (i+1) (by omega)
     rw[HU]at c
     generalize y6 s i=b at *
     have step:aM (aS AP.A) bB AP.f173L0 (ax [(0,.str s),(3,.int .i64 i)] [0,3]) h=some (.normal,[(0,.str s),(3,.int .i64 ((i:Int)+1))],h):=by
      clear ih e
      rcases c with c|c|c|c|c
      · simp (disch:=omega)only[go_sem,vN,AP.f173L0,ix]
      · simp (disch:=omega)only[go_sem,vN,AP.f173L0,ix]
      · simp (disch:=omega)only[go_sem,vN,AP.f173L0,ix]
      · simp (disch:=omega)only[go_sem,vN,AP.f173L0,ix]
      · simp (disch:=omega)only[go_sem,vN,AP.f173L0,ix]
     rw[n1]at ih
     rcases ih with ⟨e',r1,r2⟩|⟨e',r1,r2,r3⟩
     · exact .inl ⟨e',tG step r1,r2⟩
     · exact .inr ⟨e',tG step r1,r2,r3⟩
   · right
     refine⟨[(2,.bool false)],uc ?_,rfl,by simp [yM,c]⟩
     rw[HU]at c
     generalize y6 s i=b at *
     have c1:¬(97≤b∧b≤122):=by omega
     have c2:¬(48≤b∧b≤57):=by omega
     have c3:¬b=46:=by omega
     have c4:¬b=45:=by omega
     have c5:¬b=95:=by omega
     clear c
     by_cases d1:b<97
     · by_cases d2:b<48
       · clear c1 c2;simp (disch:=omega)only[go_sem,vN,AP.f173L0,ix]
       · have:57<b:=by omega
         clear c1 c2;simp (disch:=omega)only[go_sem,vN,AP.f173L0,ix]
     · have:122<b:=by omega
       have d2:¬b<48:=by omega
       clear c1 c2;simp (disch:=omega)only[go_sem,vN,AP.f173L0,ix]
theorem EV (h : H) (s : ByteArray) (hs : s.size < 1125899906842624) : aS AP.A 173 [.str s] h = some (.bool (wY s), h) := by
 have e2:br .eql (.str s) (.str ⟨#[46]⟩)=some (.bool (s.data.toList==JH.data.toList)):=y5 _ _
 have e3:br .eql (.str s) (.str ⟨#[46,46]⟩)=some (.bool (s.data.toList==FK.data.toList)):=y5 _ _
 unfold wY
 generalize (s.data.toList==JH.data.toList)=B2 at *
 generalize (s.data.toList==FK.data.toList)=B3 at *
 by_cases c1:s.size<1
 · refine uo (fn:=AP.f173) (h2:=h.dY) (e:=[(2,.bool false)]) rfl rfl rfl ?_ rfl (by rw[W8 (show¬1≤s.size by omega)];rfl)
   simp (disch:=omega)only[go_sem,vN,AP.f173]
 by_cases c2:8<s.size
 · refine uo (fn:=AP.f173) (h2:=h.dY) (e:=[(2,.bool false)]) rfl rfl rfl ?_ rfl (by rw[W8 (show¬s.size≤8 by omega),Xg,Xi];rfl)
   simp (disch:=omega)only[go_sem,vN,AP.f173]
 rw[Xb (show 1≤s.size by omega),Xb (show s.size≤8 by omega),Xj,Xj]
 cases B2 with
 | true =>
   refine uo (fn:=AP.f173) (h2:=h.dY) (e:=[(2,.bool false)]) rfl rfl rfl ?_ rfl (by rw[Bool.not_true,Xg,Xi];rfl)
   simp (disch:=omega)only[go_sem,vN,AP.f173,e2]
 | false =>
   cases B3 with
   | true =>
     refine uo (fn:=AP.f173) (h2:=h.dY) (e:=[(2,.bool false)]) rfl rfl rfl ?_ rfl (by rw[Bool.not_true,Xi,Xi];rfl)
     simp (disch:=omega)only[go_sem,vN,AP.f173,e2,e3]
   | false =>
     have ea:Bd s=yM s s.size 0:=by rw[CK];simp [Bd]
     rw[ea]
     rcases HT s (by omega) h.dY s.size 0 (by omega)with ⟨e',r1,r2⟩|⟨e',r1,r2,r3⟩
     · have r1':Lp AP.A [0,3] AP.f173L0 [(0,.str s),(3,.int .i64 0)] h.dY=some (.exit 0,e',h.dY):=r1
       clear r1
       rw[r2]
       refine uo (fn:=AP.f173) (h2:=h.dY) (e:=[(2,.bool true)]) rfl rfl rfl ?_ rfl rfl
       simp (disch:=omega)only[go_sem,vN,AP.f173,e2,e3,sF,r1']
     · have r1':Lp AP.A [0,3] AP.f173L0 [(0,.str s),(3,.int .i64 0)] h.dY=some (.ret,e',h.dY):=r1
       clear r1
       rw[r3]
       refine uo (fn:=AP.f173) (h2:=h.dY) (e:=e') (vs:=[.bool false]) rfl rfl rfl ?_ (by simp only[AP.f173,cM,nk,r2];rfl) rfl
       simp (disch:=omega)only[go_sem,vN,AP.f173,e2,e3,sF,r1']
structure Tok where
 lit:Int
 len:Int
 WD:Int
deriving DecidableEq
def Ext (h g:H):Prop:=∀id c,h.get id=some c→g.get id=some c
theorem Ext.refl (h:H):Ext h h:=fun _ _ q=>q
theorem Ext.trans {a b c:H} (x:Ext a b) (y:Ext b c):Ext a c:=fun i d q=>y i d (x i d q)
theorem Ext.alloc {a h:H} (x:Ext a h) (cs:List AV):Ext a (h.alloc cs):=fun i d q=>by
 have:=h.lt _ _ (x i d q)
 rw[H.aX,if_neg (by omega)];exact x i d q
theorem Ext.set {a h:H} (x:Ext a h) {id:Nat} (hid:a.next≤id) (cs:List AV):Ext a (h.set id cs):=fun i d q=>by
 have:=a.lt _ _ q
 rw[H.dF,if_neg (by omega)];exact x i d q
def xF (n:Int):Bool:=decide (0≤n)&&decide (n≤1048576)
theorem Hw (h:H) (n:Int):aS AP.A 119 [.int .i64 n] h=some (.bool (xF n),h):=by
 refine uo (fn:=AP.f119) (h2:=h.dY) (e:=[(2,.bool (xF n))]) rfl rfl rfl ?_ rfl rfl
 unfold xF
 by_cases c1:0≤n<;>by_cases c2:n≤1048576<;>simp (disch:=omega)only[go_sem,vN,AP.f119]
def wU (n:Int):Bool:=decide (0≤n)&&decide (n<4)
theorem Dh (h:H) (n:Int):aS AP.A 120 [.int .i64 n] h=some (.bool (wU n),h):=by
 refine uo (fn:=AP.f120) (h2:=h.dY) (e:=[(2,.bool (wU n))]) rfl rfl rfl ?_ rfl rfl
 unfold wU
 by_cases c1:0≤n<;>by_cases c2:n<4<;>simp (disch:=omega)only[go_sem,vN,AP.f120]
def Ih (v:AV):Bool:=match v with| .int .i64 n=> !xF n|_=>false
theorem Jb (h:H) (n:Int):aS AP.A 123 [.int .i64 n] h=some (.bool (!xF n),h):=by
 have k1:=Hw h.dY n
 refine uo (fn:=AP.f123) (h2:=h.dY) (e:=[(2,.bool (!xF n))]) rfl rfl rfl ?_ rfl rfl
 simp (disch:=omega)only[go_sem,vN,AP.f123,k1]
def xn (l:List Int):Bool:=decide (l.length=4)&&l.all xF
theorem Ca:∀l:List Int,(ints l).any Ih= !l.all xF
 |[]=>rfl
 | n :: l => by
   have:=Ca l
   simp only[ints,Xk,List.any_cons,XG,Bool.not_and]at *
   rw[this];rfl
theorem Il (h:H) (v:AV) (l:List Int) (rd:Rd h v (ints l)) (hl:l.length<1125899906842624):aS AP.A 117 [v] h=some (.bool (xn l),h):=by
 have rd':=rd.mono (wg h)
 have ln:=rd'.len
 rw[pP]at ln
 simp only[I]at ln
 refine uo (fn:=AP.f117) (h2:=h.dY) (e:=[(2,.bool (xn l))]) rfl rfl rfl ?_ rfl rfl
 unfold xn
 by_cases c:l.length=4
 · have k1:=AW (fv:=.fn 123 [] []) Ih (fun x hx g=>by
    obtain⟨n,hn,rfl⟩:=Xl.1 hx
    rw[nQ];exact Jb g n) (by simp;omega) h.dY rd'
   rw[Ca]at k1
   have c':(l.length:Int)=4:=by omega
   simp (disch:=omega)only[go_sem,vN,AP.f117,ln,k1,Bool.not_not]
 · have c':¬(l.length:Int)=4:=by omega
   simp (disch:=omega)only[go_sem,vN,AP.f117,ln]
theorem Rd.xg {h:H} {v:AV} {l:List Int} (r:Rd h v (ints l)):∃ad:Int→AV,(∀i:Int,0≤i∧i<l.length→fV 1 v (.int .i64 i)=some (ad i))∧
 ∀g:H,Ext h g→∀(i:Nat) (n:Int),l[i]?=some n→bU false 1 (ad i) g=some (.int .i64 n):=by
 have r2:=r.Bb
 rw[pP]at r2
 obtain⟨ad,a1,_,_,a3⟩:=r2.at_
 refine⟨fun i=>ad i 0,a1,fun g hg i n hn=> ?_⟩
 have hi:i<l.length:=(uY.1 hn).1
 refine(a3 g hg).1 i 0 _ ⟨by omega,by omega⟩ ?_
 rw[xI,XD,Xq]
 exact te hn
theorem Im {v:AV} {l:List Int} (hl:l.length<1125899906842624) (h:H) (rd:Rd h v (ints l)):∀(q p:List Int),l=p++q→
 (∃e',Lp AP.A [0,3] AP.f172L0 [(0,v),(3,.int .i64 p.length)] h=some (.exit 0,e',h)∧look e' 0=v∧q.all xF=true)∨
 (∃e',Lp AP.A [0,3] AP.f172L0 [(0,v),(3,.int .i64 p.length)] h=some (.ret,e',h)∧look e' 2=.bool false∧q.all xF=false)
 | [], p, hp => by
   left
   have ln:=rd.len
   rw[pP]at ln
   simp only[I]at ln
   rw[Xe]at hp;subst hp
   refine⟨[(0,v),(3,.int .i64 l.length),(7,.bool false)],tF ?_,rfl,rfl⟩
   simp (disch:=omega)only[go_sem,vN,AP.f172L0,ln]
 | n :: q, p, hp => by
   have ln:=rd.len
   rw[pP]at ln
   simp only[I]at ln
   have hlen:l.length=p.length+(q.length+1):=by rw[hp];simp
   have hv:l[p.length]?=some n:=by rw[hp];simp
   obtain⟨ad,a1,a2⟩:=rd.xg
   have b1:=a1 p.length ⟨by omega,by omega⟩
   have b2:=a2 h (Ext.refl h) _ _ hv
   have w1:((p.length:Int)+1)=(((p++[n]).length:Nat):Int):=by simp
   have ih:=Im hl h rd q (p++[n]) (by rw[hp];simp)
   rw[←w1]at ih
   rw[XG]
   clear a1 a2
   by_cases c1:n<0
   · right
     refine⟨[(2,.bool false)],uc ?_,rfl,by simp [xF];omega⟩
     clear ih w1
     simp (disch:=omega)only[go_sem,vN,AP.f172L0,ln,b1,b2]
   by_cases c2:1048576<n
   · right
     refine⟨[(2,.bool false)],uc ?_,rfl,by simp [xF];omega⟩
     clear ih w1
     simp (disch:=omega)only[go_sem,vN,AP.f172L0,ln,b1,b2]
   have cn:xF n=true:=by simp [xF];omega
   rw[cn,Xj]
   have step:aM (aS AP.A) bB AP.f172L0 (ax [(0,v),(3,.int .i64 p.length)] [0,3]) h=some (.normal,[(0,v),(3,.int .i64 ((p.length:Int)+1))],h):=by
    clear ih w1
    simp (disch:=omega)only[go_sem,vN,AP.f172L0,ln,b1,b2]
   rcases ih with ⟨e',r1,r2,r3⟩|⟨e',r1,r2,r3⟩
   · exact .inl ⟨e',tG step r1,r2,r3⟩
   · exact .inr ⟨e',tG step r1,r2,r3⟩
theorem Ff (h:H) (v:AV) (l:List Int) (rd:Rd h v (ints l)) (hl:l.length<1125899906842624):aS AP.A 172 [v] h=some (.bool (xn l),h):=by
 have rd':=rd.mono (wg h)
 have ln:=rd'.len
 rw[pP]at ln
 simp only[I]at ln
 unfold xn
 rcases Im hl h.dY rd' l [] rfl with ⟨e',r1,r2,r3⟩|⟨e',r1,r2,r3⟩
 · have r1':Lp AP.A [0,3] AP.f172L0 [(0,v),(3,.int .i64 0)] h.dY=some (.exit 0,e',h.dY):=r1
   clear r1
   rw[r3,XL]
   refine uo (fn:=AP.f172) (h2:=h.dY) (e:=[(2,.bool (decide (l.length=4)))]) rfl rfl rfl ?_ rfl rfl
   by_cases c:l.length=4
   · have c':(l.length:Int)=4:=by omega
     simp (disch:=omega)only[go_sem,vN,AP.f172,ln,sF,r1',r2]
   · have c':¬(l.length:Int)=4:=by omega
     simp (disch:=omega)only[go_sem,vN,AP.f172,ln,sF,r1',r2]
 · have r1':Lp AP.A [0,3] AP.f172L0 [(0,v),(3,.int .i64 0)] h.dY=some (.ret,e',h.dY):=r1
   clear r1
   rw[r3,Xi]
   refine uo (fn:=AP.f172) (h2:=h.dY) (e:=e') (vs:=[.bool false]) rfl rfl rfl ?_ (by simp only[AP.f172,cM,nk,r2];rfl) rfl
   simp (disch:=omega)only[go_sem,vN,AP.f172,ln,sF,r1',r2]
structure wR where
 name:ByteArray
 gone:Bool
 vec:List Int
 wx:Int
 node:Int
 method:Int
 packed:ByteArray
 size:Int
 zo:Int
def vT (e:wR) (v:AV):List AV:=[.str e.name,.bool e.gone,v,.int .i64 e.wx,.int .i64 e.node,.int .i64 e.method,.str e.packed,.int .i64 e.size,.int .i64 e.zo]
def xj (e:wR):Bool:=xn e.vec&&(decide (1≤e.wx)&&(xF e.wx&&wU e.node))
structure PE (h:H) (p:AV) (cs:List AV):Prop where
 nil:∀g:H,jF g p=some (p,g)
 tL:∃q:Nat→AV,(∀k,fk k p=some (q k))∧∀g:H,Ext h g→∀(k:Nat) (c:AV),cs[k]?=some c→bU false 1 (q k) g=some c
theorem JW (h:H) (p v:AV) (e:wR) (pe:PE h p (vT e v)) (rd:Rd h v (ints e.vec)) (hl:e.vec.length<1125899906842624):aS AP.A 112 [p] h=some (.bool (xj e),h):=by
 have nl:=pe.nil
 obtain⟨q,f1,f2⟩:=pe.tL
 have l2:=f2 h (Ext.refl h) 2 v rfl
 have l3:=f2 h (Ext.refl h) 3 _ rfl
 have l4:=f2 h (Ext.refl h) 4 _ rfl
 have k1:=Il h v e.vec rd hl
 have k2:=Hw h e.wx
 have k3:=Dh h e.node
 have c2:xF e.wx=true→1≤e.wx→True:=fun _ _=>trivial
 refine tT (fn:=AP.f112) (h2:=h) (e:=[(2,.bool (xj e))]) (vs:=[.bool (xj e)]) rfl rfl rfl ?_ rfl
 unfold xj
 clear pe f2 rd c2
 generalize xn e.vec=B1 at *
 generalize xF e.wx=B2 at *
 generalize wU e.node=B3 at *
 by_cases c1:1≤e.wx<;>cases B1<;>cases B2<;>cases B3<;>simp (disch:=omega)only[go_sem,vN,AP.f112,nl,f1,l2,l3,l4,k1,k2,k3]
theorem HL (h : H) (v : AV) (e : wR) (rd : Rd h v (ints e.vec)) (hv : v.sc = true) (hl : e.vec.length < 1125899906842624) : aS AP.A 169 [.agg (vT e v)] h = some (.bool (xj e), h) := by
 have hx:Ext h.dY (h.dY.alloc (vT e v)):=(Ext.refl _).alloc _
 have k1:=Ff (h.dY.alloc (vT e v)) v e.vec (rd.mono fun id c q=>hx id c q) hl
 have g1:(h.dY.alloc (vT e v)).get h.next=some (vT e v):=vO rfl
 have hn:h.dY.next=h.next:=rfl
 refine uo (fn:=AP.f169) (h2:=h.dY.alloc (vT e v)) (e:=[(2,.bool (xj e))]) rfl rfl rfl ?_ rfl rfl
 have hb:∀ev:Env,look ev 0=.agg (vT e v)→aZ ev (.box 9 (.t 0))=some (vT e v,fun i=>.aC i 0):=by
  intro ev q
  simp only[aZ,sH,q,kX]
  rw[if_pos ⟨rfl,by simp [vT,hv]⟩]
 obtain⟨h1,eh1⟩:∃g,g=h.dY.alloc (vT e v):=⟨_,rfl⟩
 rw[←eh1]at k1 g1 ⊢
 have hcnt:xj e=(xn e.vec&&(decide (1≤e.wx)&&(decide (e.wx≤1048576)&&(decide (0≤e.node)&&decide (e.node<4))))):=by
  unfold xj xF wU
  by_cases c1:1≤e.wx
  · rw[Xb (show 0≤e.wx by omega)];simp
  · simp [c1]
 rw[hcnt]
 clear hcnt rd hx
 generalize xn e.vec=B1 at *
 simp only[nh,ni,AP.f169]
 rw[rZ,rY,tq,jb,hb _ rfl]
 simp only[mE,hn,←eh1]
 simp only[vT]at g1
 cases B1 with
 |false=>simp (disch:=omega)only[go_sem,vN,k1,g1]
 | true =>
   by_cases c1:1≤e.wx
   · by_cases c2:e.wx≤1048576
     · by_cases c3:0≤e.node
       · by_cases c4:e.node<4<;>simp (disch:=omega)only[go_sem,vN,k1,g1]
       · simp (disch:=omega)only[go_sem,vN,k1,g1]
     · simp (disch:=omega)only[go_sem,vN,k1,g1]
   · simp (disch:=omega)only[go_sem,vN,k1,g1]
def Db (s:ByteArray):Bool:=s.data.toList==(⟨#[]⟩:ByteArray).data.toList
def xM (e:wR):Bool:=
 if e.gone then decide (e.method=0)&&(Db e.packed&&(decide (e.size=0)&&decide (e.zo=0)))
 else(decide (0≤e.size)&&(decide (e.size≤300)&&zm e.zo))&&(decide (e.method=0)&&decide ((e.packed.size:Int)=e.size)||decide (e.method=8)&&decide (e.packed.size≤300))
theorem IF (h : H) (p v : AV) (e : wR) (pe : PE h p (vT e v)) : aS AP.A 122 [p] h = some (.bool (xM e), h) := by
 have nl:=pe.nil
 obtain⟨q,f1,f2⟩:=pe.tL
 have l1:=f2 h (Ext.refl h) 1 _ rfl
 have l5:=f2 h (Ext.refl h) 5 _ rfl
 have l6:=f2 h (Ext.refl h) 6 _ rfl
 have l7:=f2 h (Ext.refl h) 7 _ rfl
 have l8:=f2 h (Ext.refl h) 8 _ rfl
 have k1:=LB h e.zo
 have e1:br .eql (.str e.packed) (.str ⟨#[]⟩)=some (.bool (Db e.packed)):=y5 _ _
 refine tT (fn:=AP.f122) (h2:=h) (e:=[(2,.bool (xM e))]) (vs:=[.bool (xM e)]) rfl rfl rfl ?_ rfl
 unfold xM
 clear pe f2
 generalize Db e.packed=B1 at *
 generalize zm e.zo=B2 at *
 cases hg:e.gone with
 | true =>
   rw[hg]at l1
   rw[if_pos rfl]
   by_cases c1:e.method=0
   · cases B1 with
     |false=>simp (disch:=omega)only[go_sem,vN,AP.f122,nl,f1,l1,l5,l6,l7,l8,e1]
     | true =>
       by_cases c2:e.size=0
       · by_cases c3:e.zo=0<;>simp (disch:=omega)only[go_sem,vN,AP.f122,nl,f1,l1,l5,l6,l7,l8,e1]
       · simp (disch:=omega)only[go_sem,vN,AP.f122,nl,f1,l1,l5,l6,l7,l8,e1]
   · simp (disch:=omega)only[go_sem,vN,AP.f122,nl,f1,l1,l5,l6,l7,l8,e1]
 | false =>
   rw[hg]at l1
   rw[if_neg (by decide)]
   by_cases c1:e.method=0
   · have c1':¬e.method=8:=by omega
     by_cases c2:(e.packed.size:Int)=e.size
     · by_cases c3:0≤e.size
       · by_cases c4:e.size≤300
         · cases B2<;>simp (disch:=omega)only[go_sem,vN,AP.f122,nl,f1,l1,l5,l6,l7,l8,e1,k1]
         · simp (disch:=omega)only[go_sem,vN,AP.f122,nl,f1,l1,l5,l6,l7,l8,e1,k1]
       · exfalso;omega
     · simp (disch:=omega)only[go_sem,vN,AP.f122,nl,f1,l1,l5,l6,l7,l8,e1,k1]
   · by_cases c0:e.method=8
     · by_cases c2:e.packed.size≤300
       · by_cases c3:0≤e.size
         · by_cases c4:e.size≤300
           · cases B2<;>simp (disch:=omega)only[go_sem,vN,AP.f122,nl,f1,l1,l5,l6,l7,l8,e1,k1]
           · simp (disch:=omega)only[go_sem,vN,AP.f122,nl,f1,l1,l5,l6,l7,l8,e1,k1]
         · simp (disch:=omega)only[go_sem,vN,AP.f122,nl,f1,l1,l5,l6,l7,l8,e1,k1]
       · simp (disch:=omega)only[go_sem,vN,AP.f122,nl,f1,l1,l5,l6,l7,l8,e1,k1]
     · simp (disch:=omega)only[go_sem,vN,AP.f122,nl,f1,l1,l5,l6,l7,l8,e1,k1]
def yF (prev:Option wR) (e:wR):Bool:=wY e.name&&((match prev with|none=>true|some p=>Op.bytesLess p.name.toList e.name.toList)&&(xj e&&xM e))
theorem Cx (e:wR):yF none e=(wY e.name&&(xj e&&xM e)):=by simp [yF]
theorem Lm (p e:wR):yF (some p) e=(wY e.name&&(Op.bytesLess p.name.toList e.name.toList&&(xj e&&xM e))):=rfl
def yT:Option wR→List wR→Bool
 |_,[]=>true
 |p,e::r=>yF p e&&yT (some e) r
abbrev wc:=wR×AV
def Po (x:wc):List AV:=vT x.1 x.2
def vW (l:List wc):List AV:=l.flatMap Po
theorem Aw (x:wc):(Po x).length=9:=rfl
theorem zJ (l:List wc):(vW l).length=l.length* 9:=GU Aw l
structure xw (h:H) (x:wc):Prop where
 vec:Rd h x.2 (ints x.1.vec)
 vl:x.1.vec.length<1125899906842624
 nl:x.1.name.size<1125899906842624
 pl:x.1.packed.size<1125899906842624
theorem xw.mono {h g:H} {x:wc} (o:xw h x) (e:Ext h g):xw g x:=⟨o.vec.mono fun i c q=>e i c q,o.vl,o.nl,o.pl⟩
theorem Iu {v : AV} {l : List wc} (hn : l.length < 1125899906842624) (h : H) (b : Nat) (hb : h.get b = some [v]) (rd : xo 9 h v l.length (vW l)) (hv : ∀ x ∈ l, xw h x) : ∀ (q p : List wc), l = p ++ q →
 (∃e',Lp AP.A [1,7,8] AP.f113L0 [(1,.aC b 0),(7,.int .i64 l.length),(8,.int .i64 p.length)] h=some (.exit 0,e',h)∧look e' 1=.aC b 0∧yT (p.getLast?.map (·.1)) (q.map (·.1))=true)∨
 (∃e',Lp AP.A [1,7,8] AP.f113L0 [(1,.aC b 0),(7,.int .i64 l.length),(8,.int .i64 p.length)] h=some (.ret,e',h)∧look e' 2=.bool false∧yT (p.getLast?.map (·.1)) (q.map (·.1))=false)
 | [], p, hp => by
   left
   rw[Xe]at hp;subst hp
   refine⟨[(1,.aC b 0),(7,.int .i64 l.length),(8,.int .i64 l.length),(9,.bool false)],tF ?_,rfl,rfl⟩
   simp (disch:=omega)only[go_sem,vN,AP.f113L0]
 | x :: q, p, hp => by
   have hlen:l.length=p.length+(q.length+1):=by rw[hp];simp
   have hx:l[p.length]?=some x:=by rw[hp];simp
   have ho:=hv x (by rw[hp];simp)
   obtain⟨ad,a1,a2,a4,a3⟩:=rd.at_
   have hI:(0:Int)≤(p.length:Int)∧(p.length:Int)<l.length:=⟨by omega,by omega⟩
   have b1:=a1 _ hI
   have pe:PE h (ad p.length 0) (vT x.1 x.2):=by
    refine⟨fun g=>a4 _ 0 g hI,fun k=>ad p.length (0+k),fun k=>a2 _ 0 k hI,fun g hg k c hc=> ?_⟩
    have hk:k<9:=(uY.1 hc).1
    refine(a3 g hg).1 _ _ _ hI ?_
    rw[xI,vk,show vW l=l.flatMap Po from rfl,yS Aw hx hk];exact hc
   have k1:=J7 h x.1.name ho.nl
   have k2:=JW h _ _ x.1 pe ho.vec ho.vl
   have k3:=IF h _ _ x.1 pe
   have nl:=pe.nil
   obtain⟨qq,f1,f2⟩:=pe.tL
   have l0:=f2 h (Ext.refl h) 0 _ rfl
   have ih:=Iu hn h b hb rd hv q (p++[x]) (by rw[hp];simp)
   have w1:(((p++[x]).length:Nat):Int)=(p.length:Int)+1:=by simp
   rw[w1,XJ]at ih
   have step : aM (aS AP.A) bB AP.f113L0 (ax [(1, .aC b 0), (7, .int .i64 l.length), (8, .int .i64 p.length)] [1, 7, 8]) h = if yF (p.getLast?.map (·.1)) x.1 then some (.normal, [(1, .aC b 0), (7, .int .i64 l.length), (8, .int .i64 ((p.length : Int) + 1))], h) else some (.ret, [(2, .bool false)], h) := by
    cases hl:p.getLast? with
    | none =>
      have hp0:p=[]:=Xz.1 hl
      have hp1:p.length=0:=by rw[hp0];rfl
      clear ih w1 pe f2 a1 a2 a3 a4 hl hv hp ho hx
      rw[Xp,Cx]
      generalize wY x.1.name=B1 at *
      generalize xj x.1=B3 at *
      generalize xM x.1=B4 at *
      cases B1 with
      | false =>
        rw[Xg,if_neg (by decide)]
        simp (disch:=omega)only[go_sem,vN,AP.f113L0,hb,b1,nl,f1,l0,k1,k2,k3]
      | true =>
        cases B3 with
        | false =>
          rw[Xg,Xi,if_neg (by decide)]
          simp (disch:=omega)only[go_sem,vN,AP.f113L0,hb,b1,nl,f1,l0,k1,k2,k3]
        | true =>
          cases B4 with
          | false =>
            rw[Xi,Xi,if_neg (by decide)]
            simp (disch:=omega)only[go_sem,vN,AP.f113L0,hb,b1,nl,f1,l0,k1,k2,k3]
          | true =>
            rw[Xr,Xr,if_pos rfl]
            simp (disch:=omega)only[go_sem,vN,AP.f113L0,hb,b1,nl,f1,l0,k1,k2,k3]
    | some y =>
      obtain⟨p',rfl⟩:∃p',p=p'++[y]:=XA.1 hl
      have hpl:(p'++[y]).length=p'.length+1:=by simp
      have hy:l[p'.length]?=some y:=by rw[hp];simp
      have hJ:(0:Int)≤(p'.length:Int)∧(p'.length:Int)<l.length:=⟨by omega,by omega⟩
      have bj:=a1 _ hJ
      have fj:=a2 _ 0 0 hJ
      have lj:=(a3 h (Ext.refl h)).1 p'.length (0+0) (.str y.1.name) hJ (by
       rw[xI,show vW l=l.flatMap Po from rfl,vk,yS Aw hy (by omega)];rfl)
      have cmp:br .geq (.str y.1.name) (.str x.1.name)=some (.bool (!(Op.bytesLess y.1.name.toList x.1.name.toList))):=rfl
      have n2:(((p'++[y]).length:Nat):Int)-1=(p'.length:Int):=by rw[hpl];omega
      clear ih w1 pe f2 a1 a2 a3 a4 hl hv hp ho hx hy
      rw[Xc,Lm]
      simp only[Xq]at fj lj
      generalize Op.bytesLess y.1.name.toList x.1.name.toList=B2 at *
      generalize wY x.1.name=B1 at *
      generalize xj x.1=B3 at *
      generalize xM x.1=B4 at *
      generalize (p'++[y]).length=pl at *
      cases B1 with
      | false =>
        rw[Xg,if_neg (by decide)]
        simp (disch:=omega)only[go_sem,vN,AP.f113L0,hb,b1,nl,f1,l0,k1,k2,k3,bj,fj,lj,cmp,n2]
      | true =>
        cases B2 with
        | false =>
          rw[Xg,Xi,if_neg (by decide)]
          simp (disch:=omega)only[go_sem,vN,AP.f113L0,hb,b1,nl,f1,l0,k1,k2,k3,bj,fj,lj,cmp,n2]
        | true =>
          cases B3 with
          | false =>
            rw[Xg,Xi,Xi,if_neg (by decide)]
            simp (disch:=omega)only[go_sem,vN,AP.f113L0,hb,b1,nl,f1,l0,k1,k2,k3,bj,fj,lj,cmp,n2]
          | true =>
            cases B4 with
            | false =>
              rw[Xi,Xi,Xi,if_neg (by decide)]
              simp (disch:=omega)only[go_sem,vN,AP.f113L0,hb,b1,nl,f1,l0,k1,k2,k3,bj,fj,lj,cmp,n2]
            | true =>
              rw[Xr,Xr,Xr,if_pos rfl]
              simp (disch:=omega)only[go_sem,vN,AP.f113L0,hb,b1,nl,f1,l0,k1,k2,k3,bj,fj,lj,cmp,n2]
   have hmay:yT (p.getLast?.map (·.1)) ((x::q).map (·.1))=(yF (p.getLast?.map (·.1)) x.1&&yT (some x.1) (q.map (·.1))):=rfl
   rw[hmay]
   by_cases hok:yF (p.getLast?.map (·.1)) x.1=true
   · rw[if_pos hok]at step
     rw[hok,Xj]
     rcases ih with ⟨e',r1,r2,r3⟩|⟨e',r1,r2,r3⟩
     · exact .inl ⟨e',tG step r1,r2,r3⟩
     · exact .inr ⟨e',tG step r1,r2,r3⟩
   · have hok':yF (p.getLast?.map (·.1)) x.1=false:=by simpa using hok
     rw[if_neg hok]at step
     rw[hok',Xg]
     exact .inr ⟨_,uc step,rfl,rfl⟩
def xO (l:List wR):Bool:=yT none l&&decide (l.length≤6)
theorem K0 (h:H) (v:AV) (l:List wc) (hvs:v.sc=true) (hn:l.length<1125899906842624) (rd:xo 9 h v l.length (vW l)) (hv:∀x∈l,xw h x):aS AP.A 113 [.agg [v]] h=some (.bool (xO (l.map (·.1))),h):=by
 obtain⟨h1,eh1⟩:∃g,g=h.dY.alloc [v]:=⟨_,rfl⟩
 have hx:Ext h.dY h1:=by rw[eh1];exact(Ext.refl _).alloc _
 have hx0:Ext h h1:=fun i c q=>hx i c q
 have hn0:h.dY.next=h.next:=rfl
 have g1:h1.get h.next=some [v]:=by rw[eh1];exact vO rfl
 have rd1:=rd.mono fun i c q=>hx0 i c q
 have ln:=rd1.len
 have hb:∀ev:Env,look ev 0=.agg [v]→aZ ev (.box 1 (.t 0))=some ([v],fun i=>.aC i 0):=by
  intro ev q
  simp only[aZ,sH,q,kX]
  rw[if_pos ⟨rfl,by simp [hvs]⟩]
 unfold xO
 rcases Iu hn h1 h.next g1 rd1 (fun x hx=>(hv x hx).mono hx0) l [] rfl with ⟨e',r1,r2,r3⟩|⟨e',r1,r2,r3⟩
 · have r1':Lp AP.A [1,7,8] AP.f113L0 [(1,.aC h.next 0),(7,.int .i64 l.length),(8,.int .i64 0)] h1=some (.exit 0,e',h1):=r1
   clear r1
   have r3':yT none (l.map (·.1))=true:=r3
   rw[r3',Xj,Xd]
   refine uo (fn:=AP.f113) (h2:=h1) (e:=[(2,.bool (decide (l.length≤6)))]) rfl rfl rfl ?_ rfl rfl
   clear rd rd1 hv hx hx0 r3 r3'
   simp only[nh,ni,AP.f113]
   rw[rZ,rY,tq,jb,hb _ rfl]
   simp only[mE,hn0,←eh1]
   by_cases c:l.length≤6
   · simp (disch:=omega)only[go_sem,vN,g1,ln,sF,r1',r2]
   · simp (disch:=omega)only[go_sem,vN,g1,ln,sF,r1',r2]
 · have r1':Lp AP.A [1,7,8] AP.f113L0 [(1,.aC h.next 0),(7,.int .i64 l.length),(8,.int .i64 0)] h1=some (.ret,e',h1):=r1
   clear r1
   have r3':yT none (l.map (·.1))=false:=r3
   rw[r3',Xg]
   refine uo (fn:=AP.f113) (h2:=h1) (e:=e') (vs:=[.bool false]) rfl rfl rfl ?_ (by simp only[AP.f113,cM,nk,r2];rfl) rfl
   clear rd rd1 hv hx hx0 r3 r3'
   simp only[nh,ni,AP.f113]
   rw[rZ,rY,tq,jb,hb _ rfl]
   simp only[mE,hn0,←eh1]
   simp (disch:=omega)only[go_sem,vN,g1,ln,sF,r1']
def yA (method : Int) (s : ByteArray) (size : Int) : Option ByteArray :=
 if size<0∨300<size then none
 else if method=0 then(if(s.size:Int)=size then some s else none)
 else if method=8 then(match yy s size with
  | .ok (o,took)=>if(o.length:Int)=size∧took=s.size then some (bytesOf o)else none
  | .error _=>none)
 else none
theorem BC {m : Int} {s : ByteArray} {z : Int} {t : ByteArray} (h : yA m s z = some t) : (t.size : Int) = z ∧ 0 ≤ z ∧ z ≤ 300 := by
 unfold yA at h
 split at h
 · cases h
 · rename_i q
   split at h
   · split at h
     · rename_i q2;obtain rfl:=uS h;omega
     · cases h
   · split at h
     · split at h
       · split at h
         · rename_i q2
           obtain rfl:=uS h
           rw[wN];omega
         · cases h
       · cases h
     · cases h
def Jc:Option ByteArray→AV
 |some t=>.bP [.str t,.int .i64 0]
 |none=>.bP [.str ⟨#[]⟩,.int .i64 900]
theorem KW (h : H) (hf : h.floor ≤ h.next) (m : Int) (s : ByteArray) (z : Int) (hs : s.size < 1125899906842624) : aS AP.A 114 [.int .i64 m, .str s, .int .i64 z] h = some (Jc (yA m s z), h) := by
 unfold yA
 by_cases c1:z<0
 · rw[if_pos (.inl c1)]
   refine uo (fn:=AP.f114) (h2:=h.dY) (e:=[(6,.str ⟨#[]⟩),(7,.int .i64 900)]) rfl rfl rfl ?_ rfl rfl
   simp (disch:=omega)only[go_sem,vN,AP.f114]
 by_cases c2:300<z
 · rw[if_pos (.inr c2)]
   refine uo (fn:=AP.f114) (h2:=h.dY) (e:=[(6,.str ⟨#[]⟩),(7,.int .i64 900)]) rfl rfl rfl ?_ rfl rfl
   simp (disch:=omega)only[go_sem,vN,AP.f114]
 rw[if_neg (by omega)]
 by_cases c3:m=0
 · rw[if_pos c3]
   by_cases c4:(s.size:Int)=z
   · rw[if_pos c4]
     refine uo (fn:=AP.f114) (h2:=h.dY) (e:=[(6,.str s),(7,.int .i64 0)]) rfl rfl rfl ?_ rfl rfl
     simp (disch:=omega)only[go_sem,vN,AP.f114]
   · rw[if_neg c4]
     refine uo (fn:=AP.f114) (h2:=h.dY) (e:=[(6,.str ⟨#[]⟩),(7,.int .i64 900)]) rfl rfl rfl ?_ rfl rfl
     simp (disch:=omega)only[go_sem,vN,AP.f114]
 rw[if_neg c3]
 by_cases c5:m=8
 · rw [if_pos c5]
   have k1:=IX h.dY (by simp) s z hs
   simp only[I]at k1
   cases hi:yy s z with
   | error k =>
     rw[hi]at k1
     simp only[IW,I]at k1
     have hk:=Bs hi
     have hk':¬k=0:=by rcases hk with rfl|rfl<;>decide
     clear hk
     refine uo (fn:=AP.f114) (h2:=h.dY) (e:=[(6,.str ⟨#[]⟩),(7,.int .i64 900)]) rfl rfl rfl ?_ rfl rfl
     simp (disch:=omega)only[go_sem,vN,AP.f114,k1]
   | ok r =>
     obtain⟨o,took⟩:=r
     rw[hi]at k1
     simp only[IW,I]at k1
     dsimp only
     have sz:=wN o
     by_cases c6:(o.length:Int)=z
     · by_cases c7:took=s.size
       · rw[if_pos ⟨c6,c7⟩]
         refine uo (fn:=AP.f114) (h2:=h.dY) (e:=[(6,.str (bytesOf o)),(7,.int .i64 0)]) rfl rfl rfl ?_ rfl rfl
         simp (disch:=omega)only[go_sem,vN,AP.f114,k1,sz]
       · rw[if_neg (fun q=>c7 q.2)]
         refine uo (fn:=AP.f114) (h2:=h.dY) (e:=[(6,.str ⟨#[]⟩),(7,.int .i64 900)]) rfl rfl rfl ?_ rfl rfl
         simp (disch:=omega)only[go_sem,vN,AP.f114,k1,sz]
     · rw[if_neg (fun q=>c6 q.1)]
       refine uo (fn:=AP.f114) (h2:=h.dY) (e:=[(6,.str ⟨#[]⟩),(7,.int .i64 900)]) rfl rfl rfl ?_ rfl rfl
       simp (disch:=omega)only[go_sem,vN,AP.f114,k1,sz]
 · rw[if_neg c5]
   refine uo (fn:=AP.f114) (h2:=h.dY) (e:=[(6,.str ⟨#[]⟩),(7,.int .i64 900)]) rfl rfl rfl ?_ rfl rfl
   simp (disch:=omega)only[go_sem,vN,AP.f114]
theorem Jd (h : H) (m : Int) (s : ByteArray) (z : Int) (hs : s.size < 1125899906842624) : aS AP.A 164 [.int .i64 m, .str s, .int .i64 z] h = some (Jc (yA m s z), h) := by
 unfold yA
 by_cases c1:z<0
 · rw[if_pos (.inl c1)]
   refine uo (fn:=AP.f164) (h2:=h.dY) (e:=[(6,.str ⟨#[]⟩),(7,.int .i64 900)]) rfl rfl rfl ?_ rfl rfl
   simp (disch:=omega)only[go_sem,vN,AP.f164]
 by_cases c2:300<z
 · rw[if_pos (.inr c2)]
   refine uo (fn:=AP.f164) (h2:=h.dY) (e:=[(6,.str ⟨#[]⟩),(7,.int .i64 900)]) rfl rfl rfl ?_ rfl rfl
   simp (disch:=omega)only[go_sem,vN,AP.f164]
 rw[if_neg (by omega)]
 by_cases c3:m=0
 · rw[if_pos c3]
   by_cases c4:(s.size:Int)=z
   · rw[if_pos c4]
     refine uo (fn:=AP.f164) (h2:=h.dY) (e:=[(6,.str s),(7,.int .i64 0)]) rfl rfl rfl ?_ rfl rfl
     simp (disch:=omega)only[go_sem,vN,AP.f164]
   · rw[if_neg c4]
     refine uo (fn:=AP.f164) (h2:=h.dY) (e:=[(6,.str ⟨#[]⟩),(7,.int .i64 900)]) rfl rfl rfl ?_ rfl rfl
     simp (disch:=omega)only[go_sem,vN,AP.f164]
 rw[if_neg c3]
 by_cases c5:m=8
 · rw [if_pos c5]
   have k1:=GP h.dY s z hs
   simp only[I]at k1
   cases hi:yy s z with
   | error k =>
     rw[hi]at k1
     simp only[IW,I]at k1
     have hk:=Bs hi
     have hk':¬k=0:=by rcases hk with rfl|rfl<;>decide
     clear hk
     refine uo (fn:=AP.f164) (h2:=h.dY) (e:=[(6,.str ⟨#[]⟩),(7,.int .i64 900)]) rfl rfl rfl ?_ rfl rfl
     simp (disch:=omega)only[go_sem,vN,AP.f164,k1]
   | ok r =>
     obtain⟨o,took⟩:=r
     rw[hi]at k1
     simp only[IW,I]at k1
     dsimp only
     have sz:=wN o
     by_cases c6:(o.length:Int)=z
     · by_cases c7:took=s.size
       · rw[if_pos ⟨c6,c7⟩]
         refine uo (fn:=AP.f164) (h2:=h.dY) (e:=[(6,.str (bytesOf o)),(7,.int .i64 0)]) rfl rfl rfl ?_ rfl rfl
         simp (disch:=omega)only[go_sem,vN,AP.f164,k1,sz]
       · rw[if_neg (fun q=>c7 q.2)]
         refine uo (fn:=AP.f164) (h2:=h.dY) (e:=[(6,.str ⟨#[]⟩),(7,.int .i64 900)]) rfl rfl rfl ?_ rfl rfl
         simp (disch:=omega)only[go_sem,vN,AP.f164,k1,sz]
     · rw[if_neg (fun q=>c6 q.1)]
       refine uo (fn:=AP.f164) (h2:=h.dY) (e:=[(6,.str ⟨#[]⟩),(7,.int .i64 900)]) rfl rfl rfl ?_ rfl rfl
       simp (disch:=omega)only[go_sem,vN,AP.f164,k1,sz]
 · rw[if_neg c5]
   refine uo (fn:=AP.f164) (h2:=h.dY) (e:=[(6,.str ⟨#[]⟩),(7,.int .i64 900)]) rfl rfl rfl ?_ rfl rfl
   simp (disch:=omega)only[go_sem,vN,AP.f164]
def z6 (e : wR) : Option ByteArray :=
 if xO [e]=false then none
 else if e.gone then some ⟨#[]⟩
 else match yA e.method e.packed e.size with
  |some t=>if(yo t:Int)=e.zo then some t else none
  |none=>none
theorem So (h : H) (hf : h.floor ≤ h.next) (e : wR) (v : AV) (hv : v.sc = true) (ok : xw h (e, v)) : ∃ t, aS AP.A 107 [.agg (vT e v)] h = some (.bP [.str t, .bool (z6 e).isSome], h) ∧ (∀ u, z6 e = some u → t = u) := by
 obtain⟨h1,eh1⟩:∃g,g=h.dY.alloc (vT e v):=⟨_,rfl⟩
 obtain⟨h2,eh2⟩:∃g,g=h1.alloc (vT e v):=⟨_,rfl⟩
 have hx1:Ext h h1:=fun i c q=>by rw[eh1];exact((Ext.refl h.dY).alloc _) i c q
 have hx2:Ext h h2:=by rw[eh2];exact hx1.alloc _
 have hn0:h.dY.next=h.next:=rfl
 have hn1:h1.next=h.next+1:=by rw[eh1];simp
 have g1:h2.get h.next=some (vT e v):=by rw[eh2,vS (by omega),eh1,vO (by simp)]
 have g0:h1.get h.next=some (vT e v):=by rw[eh1,vO (by simp)]
 have o:xo 9 h2 (.aD (h.next+1) 0 1 9) 1 (vW [(e,v)]):=by
  refine⟨?_,rfl,fun _=>by simp⟩
  simp only[aT,if_true]
  rw[eh2,vO (by omega)]
  rfl
 have k1:=K0 h2 (.aD (h.next+1) 0 1 9) [(e,v)] rfl (by simp) o (fun x hx=>by
  obtain rfl:x=(e,v):=by simpa using hx
  exact ok.mono hx2)
 have k1':aS AP.A 113 [.agg [.aD (h.next+1) 0 1 9]] h2=some (.bool (xO [e]),h2):=k1
 have hf2:h2.floor≤h2.next:=by rw[eh2,eh1];simp;omega
 have k2:=KW h2 hf2 e.method e.packed e.size ok.pl
 have rdA:ij true 9 (vT e v) 0=some (.agg (vT e v)):=rfl
 have cr:∀t:ByteArray,t.size<1125899906842624→aS AP.A 115 [.str t] h2=some (.int .i64 (yo t:Nat),h2):=fun t ht=>F5 h2 t ht
 clear k1 o hx1 hx2
 unfold z6
 simp only[vT]at *
 cases hm:xO [e]with
 | false =>
   rw[hm]at k1'
   refine⟨⟨#[]⟩, ?_,fun u q=>by simp at q⟩
   rw[if_pos rfl]
   refine uo (fn:=AP.f107) (h2:=h2) (e:=[(2,.str ⟨#[]⟩),(3,.bool false)]) rfl rfl rfl ?_ rfl rfl
   simp (disch:=omega)only[go_sem,vN,AP.f107,hv,hn0,←eh1,g0,rdA,hn1,←eh2,k1']
 | true =>
   rw[hm]at k1'
   rw[if_neg (by decide)]
   cases hg:e.gone with
   | true =>
     rw[hg]at g1 g0 eh1 eh2 rdA
     refine⟨⟨#[]⟩, ?_,fun u q=>by simpa using q⟩
     refine uo (fn:=AP.f107) (h2:=h2) (e:=[(2,.str ⟨#[]⟩),(3,.bool true)]) rfl rfl rfl ?_ rfl rfl
     simp (disch:=omega)only[go_sem,vN,AP.f107,hv,hn0,←eh1,g0,g1,rdA,hn1,←eh2,k1']
   | false =>
     rw[hg]at g1 g0 eh1 eh2 rdA
     rw[if_neg (by decide)]
     cases hu:yA e.method e.packed e.size with
     | none =>
       rw[hu]at k2
       simp only[Jc]at k2
       refine⟨⟨#[]⟩, ?_,fun u q=>by simp at q⟩
       refine uo (fn:=AP.f107) (h2:=h2) (e:=[(2,.str ⟨#[]⟩),(3,.bool false)]) rfl rfl rfl ?_ rfl rfl
       simp (disch:=omega)only[go_sem,vN,AP.f107,hv,hn0,←eh1,g0,g1,rdA,hn1,←eh2,k1',k2]
     | some t =>
       rw[hu]at k2
       simp only[Jc]at k2
       have kc:=cr t (by have:=BC hu;omega)
       dsimp only
       by_cases c:(yo t:Int)=e.zo
       · rw[if_pos c]
         refine⟨t, ?_,fun u q=>uS q⟩
         refine uo (fn:=AP.f107) (h2:=h2) (e:=[(2,.str t),(3,.bool true)]) rfl rfl rfl ?_ rfl rfl
         simp (disch:=omega)only[go_sem,vN,AP.f107,hv,hn0,←eh1,g0,g1,rdA,hn1,←eh2,k1',k2,kc]
       · rw[if_neg c]
         refine⟨t, ?_,fun u q=>by simp at q⟩
         refine uo (fn:=AP.f107) (h2:=h2) (e:=[(2,.str t),(3,.bool false)]) rfl rfl rfl ?_ rfl rfl
         simp (disch:=omega)only[go_sem,vN,AP.f107,hv,hn0,←eh1,g0,g1,rdA,hn1,←eh2,k1',k2,kc]
def xy (e:wR):Bool:=(z6 e).isSome
theorem GN (h:H) (hf:h.floor≤h.next) (e:wR) (v:AV) (hv:v.sc=true) (ok:xw h (e,v)):aS AP.A 96 [.agg (vT e v)] h=some (.bool (xy e),h):=by
 obtain⟨h1,eh1⟩:∃g,g=h.dY.alloc (vT e v):=⟨_,rfl⟩
 have hx1:Ext h h1:=fun i c q=>by rw[eh1];exact((Ext.refl h.dY).alloc _) i c q
 have hn0:h.dY.next=h.next:=rfl
 have g0:h1.get h.next=some (vT e v):=by rw[eh1,vO (by simp)]
 obtain⟨t,k1,_⟩:=So h1 (by rw[eh1];simp) e v hv (ok.mono hx1)
 have rdA:ij true 9 (vT e v) 0=some (.agg (vT e v)):=rfl
 refine uo (fn:=AP.f96) (h2:=h1) (e:=[(2,.bool (xy e))]) rfl rfl rfl ?_ rfl rfl
 clear hx1
 unfold xy
 simp only[vT]at *
 simp (disch:=omega)only[go_sem,vN,AP.f96,hv,hn0,←eh1,g0,rdA,k1]
theorem J3 (e:wR):xO [e]=(wY e.name&&(xj e&&xM e)):=by
 unfold xO yT
 rw[Cx]
 simp [yT]
theorem JX (h : H) (e : wR) (v : AV) (hv : v.sc = true) (ok : xw h (e, v)) : aS AP.A 167 [.agg (vT e v)] h = some (.bool (xO [e]), h) := by
 obtain⟨h1,eh1⟩:∃g,g=h.dY.alloc (vT e v):=⟨_,rfl⟩
 have hx1:Ext h h1:=fun i c q=>by rw[eh1];exact((Ext.refl h.dY).alloc _) i c q
 have hn0:h.dY.next=h.next:=rfl
 have g0:h1.get h.next=some (vT e v):=by rw[eh1,vO (by simp)]
 have k1:=EV h1 e.name ok.nl
 have k2:=HL h1 v e (ok.mono hx1).vec hv ok.vl
 have e1:br .eql (.str e.packed) (.str ⟨#[]⟩)=some (.bool (Db e.packed)):=y5 _ _
 have rdA:ij true 9 (vT e v) 0=some (.agg (vT e v)):=rfl
 rw[J3]
 refine uo (fn:=AP.f167) (h2:=h1) (e:=[(2,.bool (wY e.name&&(xj e&&xM e)))]) rfl rfl rfl ?_ rfl rfl
 clear hx1 ok
 unfold xM zm
 generalize wY e.name=B1 at *
 generalize xj e=B2 at *
 generalize Db e.packed=B3 at *
 simp only[vT]at *
 cases B1 with
 |false=>simp (disch:=omega)only[go_sem,vN,AP.f167,hv,hn0,←eh1,g0,rdA,k1,k2]
 | true =>
   cases B2 with
   |false=>simp (disch:=omega)only[go_sem,vN,AP.f167,hv,hn0,←eh1,g0,rdA,k1,k2]
   | true =>
     cases hg:e.gone with
     | true =>
       rw[hg]at g0 eh1 rdA k2
       rw[if_pos rfl]
       by_cases c1:e.method=0
       · cases B3 with
         |false=>simp (disch:=omega)only[go_sem,vN,AP.f167,hv,hn0,←eh1,g0,rdA,k1,k2,e1]
         | true =>
           by_cases c2:e.size=0
           · by_cases c3:e.zo=0<;>simp (disch:=omega)only[go_sem,vN,AP.f167,hv,hn0,←eh1,g0,rdA,k1,k2,e1]
           · simp (disch:=omega)only[go_sem,vN,AP.f167,hv,hn0,←eh1,g0,rdA,k1,k2,e1]
       · simp (disch:=omega)only[go_sem,vN,AP.f167,hv,hn0,←eh1,g0,rdA,k1,k2,e1]
     | false =>
       rw[hg]at g0 eh1 rdA k2
       rw[if_neg (by decide)]
       by_cases c1:0≤e.size
       · by_cases c2:e.size≤300
         · by_cases c3:0≤e.zo
           · by_cases c4:e.zo≤4294967295
             · by_cases c5:e.method=0
               · have c5':¬e.method=8:=by omega
                 by_cases c6:(e.packed.size:Int)=e.size<;>simp (disch:=omega)only[go_sem,vN,AP.f167,hv,hn0,←eh1,g0,rdA,k1,k2,e1]
               · by_cases c7:e.method=8
                 · by_cases c8:e.packed.size≤300<;>simp (disch:=omega)only[go_sem,vN,AP.f167,hv,hn0,←eh1,g0,rdA,k1,k2,e1]
                 · simp (disch:=omega)only[go_sem,vN,AP.f167,hv,hn0,←eh1,g0,rdA,k1,k2,e1]
             · have c4':¬(0≤e.zo∧e.zo≤4294967295):=by omega
               simp (disch:=omega)only[go_sem,vN,AP.f167,hv,hn0,←eh1,g0,rdA,k1,k2,e1]
           · have c4':¬(0≤e.zo∧e.zo≤4294967295):=by omega
             simp (disch:=omega)only[go_sem,vN,AP.f167,hv,hn0,←eh1,g0,rdA,k1,k2,e1]
         · simp (disch:=omega)only[go_sem,vN,AP.f167,hv,hn0,←eh1,g0,rdA,k1,k2,e1]
       · simp (disch:=omega)only[go_sem,vN,AP.f167,hv,hn0,←eh1,g0,rdA,k1,k2,e1]
theorem HE (h : H) (e : wR) (v : AV) (hv : v.sc = true) (ok : xw h (e, v)) : aS AP.A 157 [.agg (vT e v)] h = some (.bool (xy e), h) := by
 obtain⟨h1,eh1⟩:∃g,g=h.dY.alloc (vT e v):=⟨_,rfl⟩
 have hx1:Ext h h1:=fun i c q=>by rw[eh1];exact((Ext.refl h.dY).alloc _) i c q
 have hn0:h.dY.next=h.next:=rfl
 have g0:h1.get h.next=some (vT e v):=by rw[eh1,vO (by simp)]
 have k1:=JX h1 e v hv (ok.mono hx1)
 have k2:=Jd h1 e.method e.packed e.size ok.pl
 have rdA:ij true 9 (vT e v) 0=some (.agg (vT e v)):=rfl
 have cr:∀t:ByteArray,t.size<1125899906842624→aS AP.A 101 [.str t] h1=some (.int .i64 (yo t:Nat),h1):=fun t ht=>CV h1 t ht
 unfold xy z6
 clear hx1 ok
 cases hm:xO [e]with
 | false =>
   rw[hm]at k1
   rw[if_pos rfl]
   refine uo (fn:=AP.f157) (h2:=h1) (e:=[(2,.bool false)]) rfl rfl rfl ?_ rfl rfl
   simp only[vT]at *
   simp (disch:=omega)only[go_sem,vN,AP.f157,hv,hn0,←eh1,g0,rdA,k1]
 | true =>
   rw[hm]at k1
   rw[if_neg (by decide)]
   cases hg:e.gone with
   | true =>
     refine uo (fn:=AP.f157) (h2:=h1) (e:=[(2,.bool true)]) rfl rfl rfl ?_ rfl rfl
     simp only[vT,hg]at *
     simp (disch:=omega)only[go_sem,vN,AP.f157,hv,hn0,←eh1,g0,rdA,k1]
   | false =>
     rw[if_neg (by decide)]
     cases hu:yA e.method e.packed e.size with
     | none =>
       rw[hu]at k2
       simp only[Jc]at k2
       refine uo (fn:=AP.f157) (h2:=h1) (e:=[(2,.bool false)]) rfl rfl rfl ?_ rfl rfl
       simp only[vT,hg]at *
       simp (disch:=omega)only[go_sem,vN,AP.f157,hv,hn0,←eh1,g0,rdA,k1,k2]
     | some t =>
       rw[hu]at k2
       simp only[Jc]at k2
       have kc:=cr t (by have:=BC hu;omega)
       dsimp only
       by_cases c:(yo t:Int)=e.zo
       · rw[if_pos c]
         refine uo (fn:=AP.f157) (h2:=h1) (e:=[(2,.bool true)]) rfl rfl rfl ?_ rfl rfl
         simp only[vT,hg]at *
         simp (disch:=omega)only[go_sem,vN,AP.f157,hv,hn0,←eh1,g0,rdA,k1,k2,kc]
       · rw[if_neg c]
         refine uo (fn:=AP.f157) (h2:=h1) (e:=[(2,.bool false)]) rfl rfl rfl ?_ rfl rfl
         simp only[vT,hg]at *
         simp (disch:=omega)only[go_sem,vN,AP.f157,hv,hn0,←eh1,g0,rdA,k1,k2,kc]
theorem R8 (c:ae) (e:Env) (h:H) (x y:X):ah c e h (.mx [x,y])=dy h (mw (x.ev e) (y.ev e)):=by
 simp only[ah,aY,Xk,Xx,gE]
 cases mw (x.ev e) (y.ev e)<;>rfl
def xJ (a b:Int):Int:=if a<b then b else a
theorem K8 (k:IntKind) (a b:Int):mw (.int k a) (.int k b)=some (.int k (xJ a b)):=rfl
def zj (a b:List Int):List Int:=List.zipWith xJ a b
theorem Rd.Vr {h:H} {v:AV} {cs:List AV} (r:Rd h v cs) (hc:cs≠[]):fJ 1 v .aQ=some false:=by
 obtain⟨r,hs⟩:=r
 unfold aT at r
 split at r
 · obtain⟨_,h2⟩:=uU (uS r);exact absurd h2.symm hc
 · exact absurd rfl (hs _)
 · rfl
 · rfl
 · cases r
theorem Av {n:Nat} {h:H} {v:AV} {k:Nat} {cs:List AV} (r:xo n h v k cs) (hfn:h.floor≤h.next) (hn:0<n) (hk:0<k) {z:Nat} (hr:roomy z k=true) (hc:AV.aB cs=true):
 kR (h.alloc []) n z (.aD h.next 0 0 n) v=some (.aD (h.next+1) 0 k n,((h.alloc []).del h.next).alloc cs):=by
 have r2:xo n (h.alloc []) v k cs:=r.mono fun i c q=>by rw[H.aX,if_neg (by have:=h.lt _ _ q;omega)];exact q
 unfold kR
 rw[r2.1,uZ]
 have hkn:0<k* n:=Nat.mul_pos hk hn
 unfold dU
 rw[if_neg (by omega),if_neg (by simp [hc];omega)]
 simp only[H.jx,hfn,and_self,if_true]
 rw[vO rfl,uZ,if_neg (by simp;omega),if_pos ⟨by simp,by simpa using hr⟩]
 simp
theorem CM {n:Nat} {h:H} {v:AV} {cs:List AV} (r:xo n h v 0 cs) {z:Nat}:kR (h.alloc []) n z (.aD h.next 0 0 n) v=some (.aD h.next 0 0 n,h.alloc []):=by
 have r2:xo n (h.alloc []) v 0 cs:=r.mono fun i c q=>by rw[H.aX,if_neg (by have:=h.lt _ _ q;omega)];exact q
 unfold kR
 rw[r2.1,uZ]
 rfl
theorem yf:∀l:List Int,AV.aB (ints l)=true
 |[]=>rfl
 | n :: l => by
   have:=yf l
   show AV.aB (I n::ints l)=true
   rw[qh,this];rfl
theorem EN (h:H) (v:AV) (l:List Int) (rd:Rd h v (ints l)) (hl:0<l.length) (hb:l.length<1000000) (hfn:h.floor≤h.next):aS AP.A 118 [v] h=some (.aD (h.next+1) 0 l.length 1,((h.alloc []).del h.next).alloc (ints l)):=by
 have r2:=rd.Bb
 rw[pP]at r2
 have ap:=Av r2 hfn (by omega) hl (z:=8) (by simp [roomy];omega) (yf l)
 have nn:=rd.Vr (fun q=>by
  have q2:(ints l).length=0:=by rw[q];rfl
  rw[pP]at q2
  omega)
 refine tT (fn:=AP.f118) (h2:=((h.alloc []).del h.next).alloc (ints l)) (e:=[(2,.aD (h.next+1) 0 l.length 1)]) (vs:=[.aD (h.next+1) 0 l.length 1]) rfl rfl rfl ?_ rfl
 clear rd r2
 simp (disch:=omega)only[go_sem,vN,AP.f118,nn,ap]
theorem Mu {l:List Int} (h:l.length=4):∃a b c d,l=[a,b,c,d]:=by
 match l,h with
 |[a,b,c,d],_=>exact⟨a,b,c,d,rfl⟩
def B8 (l:List Int):AV:=BE 1 l.length (ints l)
theorem AA (h:H) (id:Nat) (b0:AV) (adv:Int→AV) (i:Nat) (x y:Int) (cs:List AV) (hi:i<4) (hg:h.get id=some cs) (hl:cs.length=4) (hx:cs[i]?=some (.int .i64 x)) (hf:h.floor≤id)
 (a1:fV 1 b0 (.int .i64 i)=some (adv i)) (a2:bU false 1 (adv i) h=some (.int .i64 y)):
 aM (aS AP.A) bB AP.f110L0 (ax [(6,.aD id 0 4 1),(19,b0),(20,.int .i64 4),(21,.int .i64 i)] [6,19,20,21]) h=some (.normal,[(6,.aD id 0 4 1),(19,b0),(20,.int .i64 4),(21,.int .i64 ((i:Int)+1))],h.set id (cs.set i (.int .i64 (xJ x y)))):=by
 have st:=uK (h:=h) (id:=id) (off:=i) (v:=.int .i64 (xJ x y)) (cs:=cs) hf (by omega) rfl
 simp (disch:=omega)only[go_sem,vN,AP.f110L0,a1,a2,hg,hx,R8,K8,st]
def BJ:wR:=⟨⟨#[]⟩,false,[],0,0,0,⟨#[]⟩,0,0⟩
theorem KB {g:Nat→Option (List AV)} {fl n:Nat} {e:wR} {v v':AV} (hv:snap g fl (n+1) true v=some v'):snap g fl (n+2) true (.agg (vT e v))=some (.agg (vT e v')):=by
 unfold snap
 simp only[vT,fK,hv]
 rfl
abbrev Z9:List AV:=[.str ⟨#[]⟩,.bool false,.aQ,.int .i64 0,.int .i64 0,.int .i64 0,.str ⟨#[]⟩,.int .i64 0,.int .i64 0]
def BZ (name:ByteArray) (node:Nat) (wx:Int) (text:ByteArray):wR:=⟨name,false,[0,0,0,0].set node wx,wx,node,0,text,text.size,yo text⟩
theorem Sr {l:List Int} (h:l.length=4):B8 l=.aW false (ints l) 0 4 1:=by unfold B8 BE;rw[h,if_neg (by omega)]
theorem Hv (h : H) (hf : h.floor ≤ h.next) (e : wR) (v : AV) (hv : v.sc = true) (ok : xw h (e, v)) (hb : e.vec.length < 20000000000000) :
 ∃h' v',aS AP.A 92 [.agg (vT e v)] h=some (.agg (vT e v'),h')∧v'=(if e.vec=[]then .aD (h.next+2) 0 0 1 else .aD (h.next+3) 0 e.vec.length 1)∧Rd h' v' (ints e.vec)∧h'.floor=h.floor∧h.next+3≤h'.next∧Ext h h'∧(0<e.vec.length→h'.get (h.next+3)=some (ints e.vec)):=by
 obtain⟨h1,eh1⟩:∃g,g=h.alloc (vT e v):=⟨_,rfl⟩
 obtain⟨h2,eh2⟩:∃g,g=h1.alloc (vT BJ .aQ):=⟨_,rfl⟩
 have n1:h1.next=h.next+1:=by rw[eh1];simp
 have n2:h2.next=h.next+2:=by rw[eh2];simp [n1]
 have f2:h2.floor=h.floor:=by rw[eh2,eh1];simp
 have x2:Ext h h2:=by rw[eh2,eh1];exact((Ext.refl h).alloc _).alloc _
 have ga2:h2.get h.next=some (vT e v):=by rw[eh2,vS (by omega),eh1,vO rfl]
 have gz2:h2.get (h.next+1)=some (vT BJ .aQ):=by rw[eh2,vO (by omega)]
 have r2:=(ok.vec.mono fun i c q=>x2 i c q).Bb
 rw[pP]at r2
 obtain⟨v',h3,ap,hv',hcl,hsc,hrd,g3,f3,n3,hget,x3⟩:∃v' h3,kR (h2.alloc []) 1 8 (.aD h2.next 0 0 1) v=some (v',h3)∧v'=(if e.vec=[]then .aD (h.next+2) 0 0 1 else .aD (h.next+3) 0 e.vec.length 1)∧v'.cells=[v']∧v'.sc=true∧Rd h3 v' (ints e.vec)∧
  (∀i,i<h.next+2→h3.get i=h2.get i)∧h3.floor=h.floor∧h.next+3≤h3.next∧(0<e.vec.length→h3.get (h.next+3)=some (ints e.vec))∧Ext h h3:=by
  by_cases c:e.vec=[]
  · rw[c]at r2
    have:=CM (z:=8) r2
    refine⟨_,_,this,by rw[if_pos c,n2],rfl,rfl, ?_,fun i hi=> ?_,by simp [f2],by simp [n2],fun q=>by rw[c]at q;simp at q,x2.alloc _⟩
    · rw[c]
      refine⟨?_,fun _=>by simp⟩
      simp only[aT,if_true]
      rw[vO (by omega)];rfl
    · rw[vS (by omega)]
  · have hp:0<e.vec.length:=Xw.2 c
    have:=Av r2 (by omega) (by omega) hp (z:=8) (by simp [roomy];omega) (yf e.vec)
    refine⟨_,_,this,by rw[if_neg c,n2],rfl,rfl, ?_,fun i hi=> ?_,by simp [f2],by simp [n2],fun _=> ?_,fun i d q=> ?_⟩
    · refine⟨?_,fun _=>by simp⟩
      simp only[aT,if_true]
      rw[vO (by simp),uZ,if_pos (by simp),Xf,vA (by simp),pP]
    · rw[vS (by simp;omega),H.eh,if_neg (by omega),vS (by omega)]
    · rw[vO (by simp [n2])]
    · have:=h.lt _ _ q
      rw[vS (by simp;omega),H.eh,if_neg (by omega),vS (by omega)];exact x2 i d q
 obtain⟨h4,eh4⟩:∃g,g=h3.set h.next (vT e v'):=⟨_,rfl⟩
 obtain⟨h5,eh5⟩:∃g,g=h4.set (h.next+1) (vT e v'):=⟨_,rfl⟩
 have ga3:h3.get h.next=some (vT e v):=by rw[g3 _ (by omega),ga2]
 have gz3:h3.get (h.next+1)=some (vT BJ .aQ):=by rw[g3 _ (by omega),gz2]
 have ga4:h4.get h.next=some (vT e v'):=by rw[eh4,vP rfl,ga3];rfl
 have gz4:h4.get (h.next+1)=some (vT BJ .aQ):=by rw[eh4,vL (by omega),gz3]
 have gz5:h5.get (h.next+1)=some (vT e v'):=by rw[eh5,vP rfl,gz4];rfl
 have st4:ur h3 h.next 2 1 [v'] (some (vT e v))=some h4:=by rw[uK (by omega) (by show 2<9;omega) hsc,eh4];rfl
 have st5:ur h4 (h.next+1) 0 9 (vT e v') (some (vT BJ .aQ))=some h5:=by
  rw[eh5];exact wH (by rw[eh4];simp;omega) rfl rfl (by simp [vT,hsc])
 have e1:h.alloc (vT e v)=h1:=eh1.symm
 have e2:h1.alloc [.str ⟨#[]⟩,.bool false,.aQ,.int .i64 0,.int .i64 0,.int .i64 0,.str ⟨#[]⟩,.int .i64 0,.int .i64 0]=h2:=eh2.symm
 have rr:ij true 9 (vT e v') 0=some (.agg (vT e v')):=rfl
 have lE:(vT e v).length=9:=rfl
 have sE:AV.aB (vT e v)=true:=by simp [vT,hv]
 have c2:(vT e v)[2]?=some v:=rfl
 have hg:∀i,i≠h.next→i≠h.next+1→h5.get i=h3.get i:=fun i q1 q2=>by rw[eh5,vL q2,eh4,vL q1]
 have x5:Ext h3 h5→True:=fun _=>trivial
 refine⟨h5,v',tT (fn:=AP.f92) (h2:=h5) (e:=[(2,.aC (h.next+1) 0)]) (vs:=[.agg (vT e v')]) rfl rfl rfl ?_ ?_,hv', ?_,by rw[eh5,eh4];simp [f3],by rw[eh5,eh4];simpa using n3, ?_,fun q=>by rw[hg _ (by omega) (by omega)];exact hget q⟩
 · clear x5 hg x2 x3 g3 hrd hget r2 ok
   generalize vT e v=A at *
   generalize vT e v'=B at *
   simp (disch:=omega)only[go_sem,vN,AP.f92,lE,sE,e1,n1,e2,ga2,vS,c2,ap,ga3,hcl,st4,ga4,rr,gz4,st5]
 · simp only[AP.f92,cM,nk,mU,qQ,gz5,tu];rfl
 · obtain⟨q1,q2⟩:=hrd
   refine⟨?_,q2⟩
   rw[←q1]
   rw[hv']
   by_cases c:e.vec=[]
   · rw[if_pos c];simp only[aT,if_true];rw[hg _ (by omega) (by omega)]
   · rw[if_neg c];simp only[aT,if_true];rw[hg _ (by omega) (by omega)]
 · intro i d q
   have:=h.lt _ _ q
   rw[hg _ (by omega) (by omega)];exact x3 i d q
theorem Ia {v w : AV} {a b : List Int} (hab : a.length = b.length) (hl : a.length < 1125899906842624) (h : H) (ra : Rd h v (ints a)) (rb : Rd h w (ints b)) : ∀ (p q r : List Int) (p' : List Int), a = p ++ q → b = p' ++ r → p.length = p'.length →
 (∃e',Lp AP.A [0,1,5] AP.f106L0 [(0,v),(1,w),(5,.int .i64 p.length)] h=some (.exit 0,e',h)∧decide (q=r)=true)∨
 (∃e',Lp AP.A [0,1,5] AP.f106L0 [(0,v),(1,w),(5,.int .i64 p.length)] h=some (.ret,e',h)∧look e' 4=.bool false∧decide (q=r)=false)
 | p, [], r, p', hp, hq, hpp => by
   have hr:r=[]:=Xm (by rw[hp,hq]at hab;simp at hab;omega)
   left
   have ln:=ra.len
   rw[pP]at ln
   simp only[I]at ln
   rw[Xe]at hp
   refine⟨[(0,v),(1,w),(5,.int .i64 p.length),(14,.bool false)],tF ?_,by rw[hr];rfl⟩
   rw[hp]at ln
   clear hab hl ra rb
   simp (disch:=omega)only[go_sem,vN,AP.f106L0,ln]
 | p, x :: q, [], p', hp, hq, hpp => by
   exfalso
   rw[hp,hq]at hab;simp at hab;omega
 | p, x :: q, y :: r, p', hp, hq, hpp => by
   have ln:=ra.len
   rw[pP]at ln
   simp only[I]at ln
   have hlen:a.length=p.length+(q.length+1):=by rw[hp];simp
   have hx:a[p.length]?=some x:=by rw[hp];simp
   have hy:b[p.length]?=some y:=by rw[hpp,hq];simp
   obtain⟨ad,a1,a2⟩:=ra.xg
   obtain⟨bd,b1,b2⟩:=rb.xg
   have i1:=a1 p.length ⟨by omega,by omega⟩
   have i2:=b1 p.length ⟨by omega,by omega⟩
   have l1:=a2 h (Ext.refl h) _ _ hx
   have l2:=b2 h (Ext.refl h) _ _ hy
   have w1:(((p++[x]).length:Nat):Int)=(p.length:Int)+1:=by simp
   have ih:=Ia hab hl h ra rb (p++[x]) q r (p'++[y]) (by rw[hp];simp) (by rw[hq];simp) (by simp;omega)
   rw[w1]at ih
   clear a1 a2 b1 b2 ra rb w1
   by_cases c:x=y
   · have step:aM (aS AP.A) bB AP.f106L0 (ax [(0,v),(1,w),(5,.int .i64 p.length)] [0,1,5]) h=some (.normal,[(0,v),(1,w),(5,.int .i64 ((p.length:Int)+1))],h):=by
      clear ih hp hq
      simp (disch:=omega)only[go_sem,vN,AP.f106L0,ln,i1,i2,l1,l2]
     have e:decide (x::q=y::r)=decide (q=r):=by simp [c]
     rw[e]
     rcases ih with ⟨e',r1,r2⟩|⟨e',r1,r2,r3⟩
     · exact .inl ⟨e',tG step r1,r2⟩
     · exact .inr ⟨e',tG step r1,r2,r3⟩
   · right
     refine⟨[(4,.bool false)],uc ?_,rfl,by simp [c]⟩
     clear ih hp hq
     simp (disch:=omega)only[go_sem,vN,AP.f106L0,ln,i1,i2,l1,l2]
theorem CD (h:H) (v w:AV) (a b:List Int) (ra:Rd h v (ints a)) (rb:Rd h w (ints b)) (hl:a.length<1125899906842624):aS AP.A 106 [v,w] h=some (.bool (decide (a=b)),h):=by
 have ra':=ra.mono (wg h)
 have rb':=rb.mono (wg h)
 have la:=ra'.len
 have lb:=rb'.len
 rw[pP]at la lb
 simp only[I]at la lb
 by_cases c:a.length=b.length
 · rcases Ia c hl h.dY ra' rb' [] a b [] rfl rfl rfl with ⟨e',r1,r2⟩|⟨e',r1,r2,r3⟩
   · have r1':Lp AP.A [0,1,5] AP.f106L0 [(0,v),(1,w),(5,.int .i64 0)] h.dY=some (.exit 0,e',h.dY):=r1
     clear r1
     rw[r2]
     refine uo (fn:=AP.f106) (h2:=h.dY) (e:=[(4,.bool true)]) rfl rfl rfl ?_ rfl rfl
     simp (disch:=omega)only[go_sem,vN,AP.f106,la,lb,sF,r1']
   · have r1':Lp AP.A [0,1,5] AP.f106L0 [(0,v),(1,w),(5,.int .i64 0)] h.dY=some (.ret,e',h.dY):=r1
     clear r1
     rw[r3]
     refine uo (fn:=AP.f106) (h2:=h.dY) (e:=e') (vs:=[.bool false]) rfl rfl rfl ?_ (by simp only[AP.f106,cM,nk,r2];rfl) rfl
     simp (disch:=omega)only[go_sem,vN,AP.f106,la,lb,sF,r1']
 · have e:decide (a=b)=false:=by rw[decide_eq_false_iff_not];intro q;exact c (by rw[q])
   rw[e]
   refine uo (fn:=AP.f106) (h2:=h.dY) (e:=[(4,.bool false)]) rfl rfl rfl ?_ rfl rfl
   simp (disch:=omega)only[go_sem,vN,AP.f106,la,lb]
def BW (a b:wR):Bool:=(a.name.data.toList==b.name.data.toList)&&((a.gone==b.gone)&&(decide (a.vec=b.vec)&&(decide (a.wx=b.wx)&&(decide (a.node=b.node)&&(decide (a.method=b.method)&&((a.packed.data.toList==b.packed.data.toList)&&(decide (a.size=b.size)&&decide (a.zo=b.zo))))))))
theorem A8 (a b:wR):BW a b=true↔a=b:=by
 have q:∀x y:ByteArray,(x.data.toList==y.data.toList)=true↔x=y:=fun x y=>by
  constructor
  · intro e;exact ByteArray.ext (Array.toList_inj.1 (eq_of_beq e))
  · rintro rfl;exact Gs _
 obtain⟨a1,a2,a3,a4,a5,a6,a7,a8,a9⟩:=a
 obtain⟨b1,b2,b3,b4,b5,b6,b7,b8,b9⟩:=b
 simp only[BW,u9,Xh,q,beq_iff_eq,wR.mk.injEq]
theorem L3 (h : H) (a b : wR) (v w : AV) (sa : v.sc = true) (sb : w.sc = true) (ra : xw h (a, v)) (rb : xw h (b, w)) : aS AP.A 98 [.agg (vT a v), .agg (vT b w)] h = some (.bool (BW a b), h) := by
 obtain⟨h1,eh1⟩:∃g,g=h.dY.alloc (vT a v):=⟨_,rfl⟩
 obtain⟨h2,eh2⟩:∃g,g=h1.alloc (vT b w):=⟨_,rfl⟩
 have x1:Ext h h1:=fun i c q=>by rw[eh1];exact((Ext.refl h.dY).alloc _) i c q
 have x2:Ext h h2:=by rw[eh2];exact x1.alloc _
 have n0:h.dY.next=h.next:=rfl
 have n1:h1.next=h.next+1:=by rw[eh1];simp
 have ga:h2.get h.next=some (vT a v):=by rw[eh2,vS (by omega),eh1,vO (by simp)]
 have gb:h2.get (h.next+1)=some (vT b w):=by rw[eh2,vO (by omega)]
 have k1:=CD h2 v w a.vec b.vec (ra.mono x2).vec (rb.mono x2).vec ra.vl
 have s1:br .eql (.str a.name) (.str b.name)=some (.bool (a.name.data.toList==b.name.data.toList)):=y5 _ _
 have s2:br .eql (.str a.packed) (.str b.packed)=some (.bool (a.packed.data.toList==b.packed.data.toList)):=y5 _ _
 have e1:h.dY.alloc (vT a v)=h1:=eh1.symm
 have e2:h1.alloc (vT b w)=h2:=eh2.symm
 refine uo (fn:=AP.f98) (h2:=h2) (e:=[(4,.bool (BW a b))]) rfl rfl rfl ?_ rfl rfl
 unfold BW
 clear x1 x2 ra rb eh1 eh2
 generalize (a.name.data.toList==b.name.data.toList)=B1 at *
 generalize (a.packed.data.toList==b.packed.data.toList)=B2 at *
 obtain⟨B3,hB3⟩:∃B,(a.gone==b.gone)=B:=⟨_,rfl⟩
 rw[hB3]
 generalize decide (a.vec=b.vec)=B4 at *
 simp only[vT]at *
 cases B1 with
 |false=>simp (disch:=omega)only[go_sem,vN,AP.f98,sa,sb,n0,e1,n1,e2,ga,gb,s1,s2,hB3,k1]
 | true =>
   cases B3 with
   |false=>simp (disch:=omega)only[go_sem,vN,AP.f98,sa,sb,n0,e1,n1,e2,ga,gb,s1,s2,hB3,k1]
   | true =>
     cases B4 with
     |false=>simp (disch:=omega)only[go_sem,vN,AP.f98,sa,sb,n0,e1,n1,e2,ga,gb,s1,s2,hB3,k1]
     | true =>
       by_cases c3:a.wx=b.wx
       · by_cases c4:a.node=b.node
         · by_cases c5:a.method=b.method
           · cases B2 with
             |false=>simp (disch:=omega)only[go_sem,vN,AP.f98,sa,sb,n0,e1,n1,e2,ga,gb,s1,s2,hB3,k1]
             | true =>
               by_cases c7:a.size=b.size
               · by_cases c8:a.zo=b.zo
                 · simp (disch:=omega)only[go_sem,vN,AP.f98,sa,sb,n0,e1,n1,e2,ga,gb,s1,s2,hB3,k1]
                 · simp (disch:=omega)only[go_sem,vN,AP.f98,sa,sb,n0,e1,n1,e2,ga,gb,s1,s2,hB3,k1]
               · simp (disch:=omega)only[go_sem,vN,AP.f98,sa,sb,n0,e1,n1,e2,ga,gb,s1,s2,hB3,k1]
           · simp (disch:=omega)only[go_sem,vN,AP.f98,sa,sb,n0,e1,n1,e2,ga,gb,s1,s2,hB3,k1]
         · simp (disch:=omega)only[go_sem,vN,AP.f98,sa,sb,n0,e1,n1,e2,ga,gb,s1,s2,hB3,k1]
       · simp (disch:=omega)only[go_sem,vN,AP.f98,sa,sb,n0,e1,n1,e2,ga,gb,s1,s2,hB3,k1]
def nA:ByteArray:=⟨#[97]⟩
def nB:ByteArray:=⟨#[98]⟩
def VH:ByteArray:=⟨#[104,105]⟩
def eA:wR:=BZ nA 0 1 VH
def eC:wR:=BZ nB 0 1 ⟨#[]⟩
def eG:wR:=⟨nA,true,[9,0,0,0],9,0,0,⟨#[]⟩,0,0⟩
theorem xw.ar {h:H} {e:wR} (hv:e.vec.length=4) (nl:e.name.size<1000000) (pl:e.packed.size<1000000):xw h (e,B8 e.vec):=
 ⟨by rw[show(e,B8 e.vec).2=B8 e.vec from rfl,Sr hv];have:=yh h e.vec;unfold wB at this;rw[hv]at this;exact this,by show e.vec.length<_;omega,by show e.name.size<_;omega,by show e.packed.size<_;omega⟩
theorem Rd.obj {h:H} {p n:Nat} {l:List Int} (hp:h.get p=some (ints l)) (hl:l.length=n):Rd h (.aD p 0 n 1) (ints l):=
 ⟨by subst hl;simp only[aT,if_true,hp,uZ];rw[if_pos (by simp),Xf,vA (by simp),pP],fun s e=>by cases e⟩
theorem xw.obj {h:H} {e:wR} {p n:Nat} {l:List Int} (hp:h.get p=some (ints l)) (hl:l.length=n) (he:e.vec=l:=by rfl) (nl:e.name.size<1125899906842624) (pl:e.packed.size<1125899906842624) (hn:n<1000000:=by decide):xw h (e,.aD p 0 n 1):=
 ⟨by show Rd h _ (ints e.vec);rw[he];exact Rd.obj hp hl,by show e.vec.length<_;rw[he];omega,by show e.name.size<_;omega,by show e.packed.size<_;omega⟩
theorem Ik (l:List Int):(B8 l).sc=true:=by unfold B8 BE;split<;>rfl
theorem yx {e:wR} {v:AV} (h:v.sc=true):AV.aB (vT e v)=true:=by simp [vT,h]
def Ad:Ty:=.int .i64
def FW:Ty:=.sl Ad 1 8
def Pn:Ty:=.st [.str,.bool,FW,Ad,Ad,Ad,.str,Ad,Ad]
theorem yU {B:Nat} {avs:List AV} (h:Sh B Ad avs):∃n,avs=[.int .i64 n]∧(-9223372036854775808≤n∧n<9223372036854775808):=by
 cases h with
 |int h=>exact⟨_,rfl,tQ h⟩
theorem L5 {B:Nat} {avs:List AV} (h:Sh B .bool avs):∃b,avs=[.bool b]:=by
 cases h with
 |bool b=>exact⟨b,rfl⟩
theorem Fa {avs:List AV} (h:Sh reachBytes .str avs):∃s:ByteArray,avs=[.str s]∧s.size<140737488355328:=by
 cases h with
 |str h=>exact⟨_,rfl,uu h⟩
theorem L9 {B:Nat} {avs:List AV} {ess:List (List AV)} (h:∀es,es∈ess→Sh B Ad es):∃l:List Int,l.length=ess.length∧ess.flatten=ints l:=by
 induction ess with
 |nil=>exact⟨[],rfl,rfl⟩
 | cons x ess ih =>
   obtain⟨n,rfl,_⟩:=yU (h x (by simp))
   obtain⟨l,h1,h2⟩:=ih fun es q=>h es (by simp [q])
   exact⟨n::l,by simp [h1],by rw[List.flatten_cons,h2];rfl⟩
theorem CF {avs:List AV} (h:Sh reachBytes FW avs):∃(v:AV) (l:List Int),avs=[v]∧v.sc=true∧(∀g,Rd g v (ints l))∧l.length<20000000000000:=by
 cases h with
 |aQ=>exact⟨.aQ,[],rfl,rfl,fun g=>⟨rfl,fun s e=>by cases e⟩,by simp⟩
 | aW ess h hz hb =>
   obtain⟨l,h1,h2⟩:=L9 (avs:=[]) h
   rw[h2,←h1]
   refine⟨_,l,rfl,rfl,fun g=> ?_, ?_⟩
   · have:=yh g l
     unfold wB at this;exact this
   · rw[h1];unfold reachBytes at hb;omega
theorem wV {B:Nat} {f:Ty} {fs:List Ty} {avs:List AV} (h:je B (f::fs) avs):∃a r,avs=a++r∧Sh B f a∧je B fs r:=by
 cases h with
 |cons h hr=>exact⟨_,_,rfl,h,hr⟩
theorem CE {B:Nat} {avs:List AV} (h:je B [] avs):avs=[]:=by
 cases h;rfl
theorem H7 {B:Nat} {fs:List Ty} {avs:List AV} (h:Sh B (.st fs) avs):je B fs avs:=by
 cases h with
 |st h=>exact h
theorem Sf {avs:List AV} (h:Sh reachBytes Pn avs):∃(e:wR) (v:AV),avs=vT e v∧v.sc=true∧(∀g,xw g (e,v))∧e.vec.length<20000000000000:=by
 obtain⟨a1,r1,rfl,s1,h1⟩:=wV (H7 h)
 obtain⟨a2,r2,rfl,s2,h2⟩:=wV h1
 obtain⟨a3,r3,rfl,s3,h3⟩:=wV h2
 obtain⟨a4,r4,rfl,s4,h4⟩:=wV h3
 obtain⟨a5,r5,rfl,s5,h5⟩:=wV h4
 obtain⟨a6,r6,rfl,s6,h6⟩:=wV h5
 obtain⟨a7,r7,rfl,s7,h7⟩:=wV h6
 obtain⟨a8,r8,rfl,s8,h8⟩:=wV h7
 obtain⟨a9,r9,rfl,s9,h9⟩:=wV h8
 obtain rfl:=CE h9
 obtain⟨n,rfl,z1⟩:=Fa s1
 obtain⟨g,rfl⟩:=L5 s2
 obtain⟨v,l,rfl,hv,rd,z3⟩:=CF s3
 obtain⟨st,rfl,_⟩:=yU s4
 obtain⟨no,rfl,_⟩:=yU s5
 obtain⟨me,rfl,_⟩:=yU s6
 obtain⟨pa,rfl,z7⟩:=Fa s7
 obtain⟨si,rfl,_⟩:=yU s8
 obtain⟨cr,rfl,_⟩:=yU s9
 exact⟨⟨n,g,l,st,no,me,pa,si,cr⟩,v,rfl,hv,fun g=>⟨rd g,by show l.length<_;omega,by show n.size<_;omega,by show pa.size<_;omega⟩,z3⟩
theorem Vt {P:Ty×List AV→Prop} {a b c d:Ty} {r:List (Ty×List AV)} (h:r.map (·.1)=[a,b,c,d]) (hp:∀x∈r,P x):∃x y z w,r=[(a,x),(b,y),(c,z),(d,w)]∧P (a,x)∧P (b,y)∧P (c,z)∧P (d,w):=by
 match r,h with
 |[(a',x),(b',y),(c',z),(d',w)],h=>simp at h;obtain⟨rfl,rfl,rfl,rfl⟩:=h;exact⟨x,y,z,w,rfl,hp _ (by simp),hp _ (by simp),hp _ (by simp),hp _ (by simp)⟩
end Ab
