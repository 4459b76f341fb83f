/- Part C2. -/
import Derived.Test.YtebioenemijecaaGreatDoorC1
set_option linter.unusedSimpArgs false
set_option linter.unusedVariables false
namespace Ab
open Go
theorem BL {c:FC} {S:SS} {h:H} {ov:AV} (st:Ft c S h ov) (a b:AV) (n d i:Nat) (hs:n≤i∨(i<n∧S.e≠0)):
 ∃e',Lp AP.A [0,1,2,10,14,15] AP.f20L0 [(0,.aG c.f 0),(1,a),(2,b),(10,I n),(14,I d),(15,I i)] h=some (.exit 2,e',h)∧look e' 0=.aG c.f 0∧look e' 1=a∧look e' 2=b:=by
 have gf:=st.gf
 refine⟨[(0,.aG c.f 0),(1,a),(2,b),(10,I n),(14,I d),(15,I i),(107,.bool false)],u6 ?_,rfl,rfl,rfl⟩
 rcases hs with hn|⟨hn,he⟩
 · have c1:¬(i:Int)<n:=by omega
   simp only[I]at *
   simp only[AP.f20L0,go_sem,aaU c1]
 · have c1:(i:Int)<n:=by omega
   have c2:=vV he
   simp only[I]at *
   simp only[AP.f20L0,go_sem,aaW c1,gf,c2]
theorem EZ {c : FC} (a b : AV) (d : Nat) (hd : 0 < d) (n : Nat) (hn : n ≤ 65535) : ∀ (m i : Nat) (S : SS) (h : H) (ov : AV), i + m = n → Ft c S h ov → S.e = 0 → d ≤ S.out.length →
 ∃ e' h' ov' S', Lp AP.A [0, 1, 2, 10, 14, 15] AP.f20L0 [(0, .aG c.f 0), (1, a), (2, b), (10, I n), (14, I d), (15, I i)] h = some (.exit 2, e', h') ∧ look e' 0 = .aG c.f 0 ∧ look e' 1 = a ∧ look e' 2 = b ∧ Ft c S' h' ov' ∧ FF c h ov h' ov' ∧ match BX c.most d m S.out with
   | .ok o=>S'={S with out:=o}
   | .error k=>S'.e=k∧k≠0
 | 0, i, S, h, ov, hm, st, he, hl => by
   obtain⟨e',q,q2⟩:=BL st a b n d i (.inl (by omega))
   exact⟨e',h,ov,S,q,q2.1,q2.2.1,q2.2.2,st,FF.refl _ _ _,by simp only[BX]⟩
 | m + 1, i, S, h, ov, hm, st, he, hl => by
   have gf:=st.gf
   have hol:=st.ol
   have hml:=st.ml
   have ln:=st.own.len
   rw[zS]at ln
   have c1:(i:Int)<n:=by omega
   have w1:IntKind.wrap .i64 ((i:Int)+1)=((i+1:Nat):Int):=xy (n:=i+1) (by omega)
   have w2:IntKind.wrap .i64 ((S.out.length:Int)-d)=((S.out.length-d:Nat):Int):=by rw[show(S.out.length:Int)-d=((S.out.length-d:Nat):Int)by omega];exact xy (by omega)
   have hb:=JJ (l:=S.out) (i:=S.out.length-d) (by omega)
   obtain⟨id,i1,i2,i3⟩:=st.own.elem hb
   obtain⟨h2,ov2,S2,p1,p2,p3,p4⟩:=Jr st he (S.out.getD (S.out.length-d) 0)
   have step:aO (aU AP.A) bH AP.f20L0 (ay [(0,.aG c.f 0),(1,a),(2,b),(10,I n),(14,I d),(15,I i)] [0,1,2,10,14,15]) h=some (.normal,[(0,.aG c.f 0),(1,a),(2,b),(10,I n),(14,I d),(15,I (i+1:Nat))],h2):=by
    clear i1
    rw[he]at gf
    simp only[I]at *
    simp only[AP.f20L0,go_sem,aaW c1,gf,ln,w2,i2,i3,hb,p1,w1]
   rw[BX]
   by_cases hm':c.most≤S.out.length
   · rw[if_pos hm']at p4 ⊢
     have he2:S2.e=701:=by rw[p4]
     have hs:n≤i+1∨(i+1<n∧S2.e≠0):=by
      by_cases q:i+1<n
      · exact .inr ⟨q,by rw[he2];decide⟩
      · exact .inl (by omega)
     obtain⟨e',q,q2⟩:=BL p2 a b n d (i+1) hs
     exact⟨e',h2,ov2,_,u9 step q,q2.1,q2.2.1,q2.2.2,p2,p3,he2,by decide⟩
   · rw[if_neg hm']at p4 ⊢
     subst p4
     obtain⟨e',h',ov',S',q1,q2,q3,q4,q5,q6,q7⟩:=EZ a b d hd n hn m (i+1) _ h2 ov2 (by omega) p2 rfl (by simp;omega)
     refine⟨e',h',ov',S',u9 step q1,q2,q3,q4,q5,p3.trans q6, ?_⟩
     dsimp only at q7 ⊢
     rw[he]
     exact q7
theorem Bf {c:FC} {S:SS} {h:H} {ov:AV} (st:Ft c S h ov) (a b:AV) (hs:S.e≠0):
 ∃e',Lp AP.A [0,1,2] AP.f20L1 [(0,.aG c.f 0),(1,a),(2,b)] h=some (.exit 0,e',h):=by
 have gf:=st.gf
 refine⟨[(0,.aG c.f 0),(1,a),(2,b),(20,.bool false)],u6 ?_⟩
 have c2:=vV hs
 simp only[I]at *
 simp only[AP.f20L1,go_sem,gf,c2]
theorem Cb {c : FC} (ll dl : List Int) (hll : ll.length < 1000) (hdl : dl.length < 1000) : ∀ (k : Nat) (S : SS) (h : H) (ov : AV), Ft c S h ov → S.e = 0 → 8 * c.text.size < S.at_ + k →
 ∃e' h' ov' S',(Lp AP.A [0,1,2] AP.f20L1 [(0,.aG c.f 0),(1,xS ll),(2,xS dl)] h=some (.ret,e',h')∨Lp AP.A [0,1,2] AP.f20L1 [(0,.aG c.f 0),(1,xS ll),(2,xS dl)] h=some (.exit 0,e',h'))∧Ft c S' h' ov'∧FF c h ov h' ov'∧Fin (Ag c.text c.most ll dl k S.at_ S.out) S'
 |0,S,h,ov,st,he,hk=>by have:=st.zl;omega
 | k + 1, S, h, ov, st, he, hk => by
   have gf:=st.gf
   rw[he]at gf
   obtain⟨h1,S1,z,s1,s2,s3,s4⟩:=DT ll hll st he
   have gf1:=s2.gf
   rw[Ag]
   cases hz:Ar c.text ll 15 1 0 S.at_ with
   | none =>
     rw[hz]at s4
     obtain⟨s4,s5⟩:=s4
     have ce:(S1.e !=0)=true:=vY (by rw[s4];decide)
     refine⟨[(0,.aG c.f 0),(1,xS ll),(2,xS dl),(6,I z),(32,.bool true)],h1,ov,S1,.inl (vF ?_),s2,s3,s4,by decide⟩
     simp only[I]at *
     simp only[AP.f20L1,go_sem,gf,s1,gf1,ce]
   | some zp =>
     obtain⟨z2,p1⟩:=zp
     rw[hz]at s4
     obtain⟨s4,s5⟩:=s4
     subst s5 s4
     dsimp only at gf1
     rw[he]at gf1
     have zb:=Am hz
     obtain⟨y,hy⟩:∃n:Nat,z=n:=abd zb.1
     subst hy
     dsimp only
     by_cases c1:(y:Int)<256
     · rw[if_pos c1]
       have w1:IntKind.wrap .u8 (y:Int)=y:=wrap_u8 (by omega)
       have c256:((y:Int)==256)=false:=vV (by omega)
       obtain⟨h2,ov2,S2,p1',p2',p3',p4'⟩:=Jr s2 he y
       have step:aO (aU AP.A) bH AP.f20L1 (ay [(0,.aG c.f 0),(1,xS ll),(2,xS dl)] [0,1,2]) h=some (.normal,[(0,.aG c.f 0),(1,xS ll),(2,xS dl)],h2):=by
        simp only[I]at *
        simp only[AP.f20L1,go_sem,gf,s1,gf1,c256,aaW c1,w1,p1']
       dsimp only at p4'
       by_cases hm:c.most≤S.out.length
       · rw[if_pos hm]at p4' ⊢
         have he2:S2.e=701:=by rw[p4']
         obtain⟨e',q⟩:=Bf p2' (xS ll) (xS dl) (by rw[he2];decide)
         exact⟨e',h2,ov2,_,.inr (u9 step q),p2',s3.trans p3',he2,by decide⟩
       · rw[if_neg hm]at p4' ⊢
         subst p4'
         obtain⟨e',h',ov',S',q1,q2,q3,q4⟩:=Cb ll dl hll hdl k _ h2 ov2 p2' rfl (by dsimp only;omega)
         refine⟨e',h',ov',S', ?_,q2,(s3.trans p3').trans q3,q4⟩
         rcases q1 with q1|q1
         · exact .inl (u9 step q1)
         · exact .inr (u9 step q1)
     · rw [if_neg c1]
       by_cases c2:(y:Int)=256
       · rw[if_pos c2]
         refine⟨[(0,.aG c.f 0),(1,xS ll),(2,xS dl),(6,I y),(32,.bool true)],h1,ov,_,.inl (vF ?_),s2,s3, ?_⟩
         · have c2':=vW c2
           simp only[I]at *
           simp only[AP.f20L1,go_sem,gf,s1,gf1,c2']
         · simp only[Fin];rw[he]
       · rw [if_neg c2]
         have c256:=vV c2
         have lo:=MV h1 y (by omega)
         rw[abq]
         unfold Dd
         have n600:((600:Int) !=0)=true:=rfl
         have n0:((0:Int) !=0)=false:=rfl
         cases hlo:lenOf y with
         | none =>
           rw[hlo]at lo
           obtain⟨h2,f1,f2,f3⟩:=Ap s2
           refine⟨[],h2,ov,_,.inl (vF ?_),f2,s3.trans f3,by simp [xM,he],by decide⟩
           simp only[I,Cn]at *
           simp only[AP.f20L1,go_sem,gf,s1,gf1,c256,aaU c1,lo,n600,f1]
         | some le =>
           obtain⟨least,extra⟩:=le
           rw[hlo]at lo
           obtain⟨b1,b2,b3⟩:=Ij hlo
           obtain⟨h2,k1,k2,k3⟩:=zV s2 extra extra rfl (by omega)
           dsimp only
           by_cases hp:p1+extra≤8* c.text.size
           · have eg : yb c extra { S with at_ := p1 } = (xJ c.text p1 extra, { S with at_ := p1 + extra }) := by rw [yb, if_pos hp]
             rw[eg]at k1 k2
             dsimp only at k1 k2
             rw[if_pos hp]
             have gf2:=k2.gf
             dsimp only at gf2
             rw[he]at gf2
             have hve:=yt c.text p1 extra
             have hve2:2^extra≤2^5:=abb (by omega) b2
             have w1:IntKind.wrap .i64 ((least:Int)+(xJ c.text p1 extra:Int))=((least+xJ c.text p1 extra:Nat):Int):=by
              rw[show(least:Int)+(xJ c.text p1 extra:Int)=((least+xJ c.text p1 extra:Nat):Int)by omega];exact xy (by omega)
             obtain⟨h3,S3,z,s1',s2',s3',s4'⟩:=DT dl hdl k2 he
             have gf3:=s2'.gf
             dsimp only at s4'
             cases hz2:Ar c.text dl 15 1 0 (p1+extra)with
             | none =>
               rw[hz2]at s4'
               obtain⟨s4',s5'⟩:=s4'
               have ce3:(S3.e !=0)=true:=vY (by rw[s4'];decide)
               refine⟨[(0,.aG c.f 0),(1,xS ll),(2,xS dl),(10,I (least+xJ c.text p1 extra:Nat)),(11,I z),(66,.bool true)],h3,ov,S3,.inl (vF ?_),s2',(s3.trans k3).trans s3',s4',by decide⟩
               simp only[I,Cn]at *
               simp only[AP.f20L1,go_sem,gf,s1,gf1,c256,aaU c1,lo,n0,k1,w1,gf2,s1',gf3,ce3]
             | some zp =>
               obtain⟨z2,p2⟩:=zp
               rw[hz2]at s4'
               obtain⟨s4',s5'⟩:=s4'
               subst s5' s4'
               have zb2:=Am hz2
               obtain⟨zn,hzn⟩:∃n:Nat,z=n:=abd zb2.1
               subst hzn
               have dob:=Ld h3 zn (by omega)
               dsimp only at gf3 ⊢
               rw[he]at gf3
               rw[abq]
               cases hdo:zU zn with
               | none =>
                 rw[hdo]at dob
                 obtain⟨h4,f1,f2,f3⟩:=Ap s2'
                 refine⟨[],h4,ov,_,.inl (vF ?_),f2,((s3.trans k3).trans s3').trans f3,by simp [xM,he],by decide⟩
                 simp only[I,Cn]at *
                 simp only[AP.f20L1,go_sem,gf,s1,gf1,c256,aaU c1,lo,n0,k1,w1,gf2,s1',gf3,dob,n600,f1]
               | some lx =>
                 obtain⟨ld,xd⟩:=lx
                 rw[hdo]at dob
                 obtain⟨d1,d2,d3⟩:=Gf hdo
                 obtain⟨h4,v1,v2,v3⟩:=zV s2' xd xd rfl (by omega)
                 obtain⟨x,hx⟩:∃x,x=(yb c xd {S with at_:=p2}).1:=⟨_,rfl⟩
                 obtain⟨S4,hS4⟩:∃x,x=(yb c xd {S with at_:=p2}).2:=⟨_,rfl⟩
                 rw[←hx]at v1;rw[←hS4]at v2
                 have hxb:x<65536:=hx ▸ Hf c _ xd (by omega)
                 have w2:IntKind.wrap .i64 ((ld:Int)+(x:Int))=((ld+x:Nat):Int):=by
                  rw[show(ld:Int)+(x:Int)=((ld+x:Nat):Int)by omega];exact xy (by omega)
                 have gf4:=v2.gf
                 have ln:=v2.own.len
                 rw[zS]at ln
                 have frs:=((s3.trans k3).trans s3').trans v3
                 dsimp only
                 have toLoop:∀(h5:H) (e6:Env) (h6:H),((S4.e=0∧S4.out.length<ld+x∧aU AP.A 25 [.aG c.f 0] h4=some (.bW [],h5))∨((S4.e≠0∨¬S4.out.length<ld+x)∧h5=h4))→Lp AP.A [0,1,2,10,14,15] AP.f20L0 [(0,.aG c.f 0),(1,xS ll),(2,xS dl),(10,I (least+xJ c.text p1 extra:Nat)),(14,I (ld+x:Nat)),(15,I 0)] h5=some (.exit 2,e6,h6)→
                  look e6 0=.aG c.f 0→look e6 1=xS ll→look e6 2=xS dl→aO (aU AP.A) bH AP.f20L1 (ay [(0,.aG c.f 0),(1,xS ll),(2,xS dl)] [0,1,2]) h=some (.normal,[(0,.aG c.f 0),(1,xS ll),(2,xS dl)],h6):=by
                  intro h5 e6 h6 hcase q6 l0 l1 l2
                  rcases hcase with ⟨g1,g2,g3⟩|⟨g1,rfl⟩
                  · have g2':(S4.out.length:Int)<((ld+x:Nat):Int):=by omega
                    have g1':=vW g1
                    simp only[I,Cn]at *
                    simp only[AP.f20L1,go_sem,gf,s1,gf1,c256,aaU c1,lo,n0,k1,w1,gf2,s1',gf3,dob,v1,w2,gf4,g1',ln,aaW g2',g3,uo,q6,l0,l1,l2]
                  · by_cases g3:S4.e=0
                    · have g2:¬S4.out.length<ld+x:=by
                       rcases g1 with q|q
                       · exact absurd g3 q
                       · exact q
                      have g2':¬(S4.out.length:Int)<((ld+x:Nat):Int):=by omega
                      have g1':=vW g3
                      clear g1
                      simp only[I,Cn]at *
                      simp only[AP.f20L1,go_sem,gf,s1,gf1,c256,aaU c1,lo,n0,k1,w1,gf2,s1',gf3,dob,v1,w2,gf4,g1',ln,aaU g2',uo,q6,l0,l1,l2]
                    · have g1':=vV g3
                      clear g1
                      simp only[I,Cn]at *
                      simp only[AP.f20L1,go_sem,gf,s1,gf1,c256,aaU c1,lo,n0,k1,w1,gf2,s1',gf3,dob,v1,w2,gf4,g1',ln,uo,q6,l0,l1,l2]
                 by_cases hp2:p2+xd≤8* c.text.size
                 · have egx:yb c xd {S with at_:=p2}=(xJ c.text p2 xd,{S with at_:=p2+xd}):=by rw[yb,if_pos hp2]
                   rw[egx]at hx hS4;dsimp only at hx hS4
                   subst hS4
                   rw[←hx]
                   by_cases hbk:S.out.length<ld+x
                   · rw[if_neg (fun q=>by omega)]
                     obtain⟨h5,f1,f2,f3⟩:=Ap v2
                     have he5:(xM 700 {S with at_:=p2+xd}).e=700:=by simp [xM,he]
                     obtain⟨e6,q6,q7,q8,q9⟩:=BL f2 (xS ll) (xS dl) (least+xJ c.text p1 extra) (ld+x) 0 (.inr ⟨by omega,by rw[he5];decide⟩)
                     have step:=toLoop h5 e6 h5 (.inl ⟨he,hbk,f1⟩) q6 q7 q8 q9
                     obtain⟨e',q⟩:=Bf f2 (xS ll) (xS dl) (by rw[he5];decide)
                     exact⟨e',h5,ov,_,.inr (u9 step q),f2,frs.trans f3,he5,by decide⟩
                   · rw[if_pos ⟨hp2,by omega⟩]
                     obtain⟨e6,h6,ov6,S6,q1,q2,q3,q4,q5,q6,q7⟩:=EZ (c:=c) (xS ll) (xS dl) (ld+x) (by omega) (least+xJ c.text p1 extra) (by omega) (least+xJ c.text p1 extra) 0 _ h4 ov (by omega) v2 he (by dsimp only;omega)
                     have step:=toLoop h4 e6 h6 (.inr ⟨.inr hbk,rfl⟩) q1 q2 q3 q4
                     dsimp only at q7
                     cases hcl:BX c.most (ld+x) (least+xJ c.text p1 extra) S.out with
                     | error q =>
                       rw[hcl]at q7
                       obtain⟨e',q'⟩:=Bf q5 (xS ll) (xS dl) (by rw[q7.1];exact q7.2)
                       exact⟨e',h6,ov6,S6,.inr (u9 step q'),q5,frs.trans q6,q7⟩
                     | ok o =>
                       rw[hcl]at q7
                       dsimp only at q7
                       subst q7
                       obtain⟨e',h',ov',S',r1,r2,r3,r4⟩:=Cb ll dl hll hdl k _ h6 ov6 q5 he (by dsimp only;omega)
                       refine⟨e',h',ov',S', ?_,r2,(frs.trans q6).trans r3,r4⟩
                       rcases r1 with r1|r1
                       · exact .inl (u9 step r1)
                       · exact .inr (u9 step r1)
                 · rw[if_neg (fun q=>hp2 q.1)]
                   have he4:S4.e=700:=by rw[hS4,yb,if_neg hp2];simp [xM,he]
                   obtain⟨e6,q6,q7,q8,q9⟩:=BL v2 (xS ll) (xS dl) (least+xJ c.text p1 extra) (ld+x) 0 (.inr ⟨by omega,by rw[he4];decide⟩)
                   have step:=toLoop h4 e6 h4 (.inr ⟨.inl (by rw[he4];decide),rfl⟩) q6 q7 q8 q9
                   obtain⟨e',q⟩:=Bf v2 (xS ll) (xS dl) (by rw[he4];decide)
                   exact⟨e',h4,ov,_,.inr (u9 step q),v2,frs,he4,by decide⟩
           · have eg:yb c extra {S with at_:=p1}=(0,{S with at_:=p1,e:=700}):=by rw[yb,if_neg hp,xM,if_pos he]
             rw[eg]at k1 k2
             dsimp only at k1 k2
             rw[if_neg hp]
             have gf2:=k2.gf
             have w1:IntKind.wrap .i64 ((least:Int)+((0:Nat):Int))=((least:Nat):Int):=by
              rw[show(least:Int)+((0:Nat):Int)=((least:Nat):Int)by omega];exact xy (by omega)
             have n7:((700:Int) !=0)=true:=rfl
             refine⟨[(0,.aG c.f 0),(1,xS ll),(2,xS dl),(10,I least),(58,.bool true)],h2,ov,_,.inl (vF ?_),k2,s3.trans k3,rfl,by decide⟩
             simp only[I,Cn]at *
             simp only[AP.f20L1,go_sem,gf,s1,gf1,c256,aaU c1,lo,n0,k1,w1,gf2,n7]
theorem H0 {c:FC} {S:SS} {h:H} {ov:AV} (ll dl:List Int) (hll:ll.length<1000) (hdl:dl.length<1000) (st:Ft c S h ov) (he:S.e=0):
 ∃h' ov' S',aU AP.A 20 [.aG c.f 0,xS ll,xS dl] h=some (.bW [],h')∧Ft c S' h' ov'∧FF c h ov h' ov'∧Fin (Ag c.text c.most ll dl (8* c.text.size+1) S.at_ S.out) S':=by
 obtain⟨e',h',ov',S',q1,q2,q3,q4⟩:=Cb ll dl hll hdl (8* c.text.size+1) S h ov st he (by omega)
 refine⟨h',ov',S', ?_,q2,q3,q4⟩
 rcases q1 with q1|q1
 · refine vv (fn:=AP.f20) (e:=e') (vs:=[]) rfl rfl rfl ?_ rfl
   simp only[AP.f20,go_sem,uo,q1]
 · refine yE (fn:=AP.f20) (e:=[]) (vs:=[]) rfl rfl rfl ?_ rfl
   simp only[AP.f20,go_sem,uo,q1]
theorem Nd (h:H):aU AP.A 32 [] h=some (xU yd,h):=by
 have b:bg [] (.dj 1 19 [.int .i64 0] [(0,(.c (.int .i64 16))),(1,(.c (.int .i64 17))),(2,(.c (.int .i64 18))),(3,(.c (.int .i64 0))),(4,(.c (.int .i64 8))),(5,(.c (.int .i64 7))),(6,(.c (.int .i64 9))),(7,(.c (.int .i64 6))),(8,(.c (.int .i64 10))),(9,(.c (.int .i64 5))),(10,(.c (.int .i64 11))),(11,(.c (.int .i64 4))),(12,(.c (.int .i64 12))),(13,(.c (.int .i64 3))),(14,(.c (.int .i64 13))),(15,(.c (.int .i64 2))),(16,(.c (.int .i64 14))),(17,(.c (.int .i64 1))),(18,(.c (.int .i64 15)))])=some (ints yd,fun i=>.aH i 0 19 1):=rfl
 refine vP (fn:=AP.f32) (h2:=h.eO.alloc (ints yd)) (e:=[(0,.aH h.next 0 19 1)]) (vs:=[.aH h.next 0 19 1]) rfl rfl rfl ?_ rfl ?_
 · have hn:h.eO.next=h.next:=rfl
   simp only[AP.f32,go_sem,b,hn]
 · show snap (h.eO.alloc (ints yd)).get h.next 16 true (.aH h.next 0 19 1)=_
   unfold snap
   rw[if_neg (by omega),H.aZ,if_pos (show h.next=h.eO.next from rfl),wP,if_pos (by decide)]
   rw[show((ints yd).drop 0).take (19* 1)=ints yd from rfl,zG];rfl
theorem Aa {h:H} {v:AV} {l:List Int} {fl:Nat} (o:oU h v (ints l)) (hf:fl≤h.floor) (hl:l≠[]):snap h.get fl 16 true v=some (xU l):=by
 rcases o with ⟨_,q⟩|⟨id,rfl,q,h2,_⟩
 · exact absurd (List.map_eq_nil_iff.1 q) hl
 · unfold snap
   rw[if_neg (by omega),q,wP,if_pos (by omega)]
   rw[aa8,abu,List.take_length,zG]
   simp [xU]
def fixF (i:Nat):Int:=if 144≤i∧i<256 then 9 else if 256≤i∧i<280 then 7 else 8
theorem Ee : ∀ (m i : Nat) (h : H) (v : AV), i + m = 288 → oU h v (ints ((List.range i).map fixF)) → h.floor ≤ h.next →
 ∃e' h' v',Lp AP.A [1,2] AP.f22L0 [(1,v),(2,I i)] h=some (.exit 0,e',h')∧look e' 1=v'∧oU h' v' (ints ((List.range 288).map fixF))∧h'.floor=h.floor
 | 0, i, h, v, hm, o, hf => by
   obtain rfl:i=288:=by omega
   refine⟨[(1,v),(2,I 288),(5,.bool false)],h,v,u6 ?_,rfl,o,rfl⟩
   have c1:¬(((288:Nat):Int)<288):=by omega
   simp only[I]at *
   simp only[AP.f22L0,go_sem,aaU c1]
   rfl
 | m + 1, i, h, v, hm, o, hf => by
   have c1:(i:Int)<288:=by omega
   have w1:IntKind.wrap .i64 ((i:Int)+1)=((i+1:Nat):Int):=xy (n:=i+1) (by omega)
   obtain⟨g,hg⟩:∃g,g=h.alloc [I (fixF i)]:=⟨_,rfl⟩
   have og:oU g v (ints ((List.range i).map fixF)):=o.mono (by rw[hg];simp) fun j hj=>by have:=o.lt hj;rw[hg,H.aZ,if_neg (by omega)]
   have hgf:g.floor≤g.next:=by rw[hg];simp;omega
   obtain⟨v',h2,r1,r2,r3,r4,r5,r6⟩:=og.app hgf (z:=8) (I (fixF i)) rfl (by simp [roomy];omega)
   have src:aV g 1 (.aH h.next 0 1 1)=some (1,[I (fixF i)]):=by simp [aV,hg,H.aZ]
   have ap:mo g 1 8 v (.aH h.next 0 1 1)=some (v',h2):=by unfold mo;rw[src,wP];exact r1
   have bt:∀e:Env,look e 21=.int .i64 (fixF i)→bg e (.dj 1 1 [.int .i64 0] [(0,.t 21)])=some ([.int .i64 (fixF i)],fun i=>.aH i 0 1 1):=by
    intro e q;simp only[bg,aa5,abn,ur,q];rfl
   have hr:ints ((List.range i).map fixF)++[I (fixF i)]=ints ((List.range (i+1)).map fixF):=by
    rw[List.range_succ,abg,rj];rfl
   rw[hr]at r2
   have step:aO (aU AP.A) bH AP.f22L0 (ay [(1,v),(2,I i)] [1,2]) h=some (.normal,[(1,v'),(2,I (i+1:Nat))],h2):=by
    clear hr
    by_cases q1:144≤i
    · have d1:(144:Int)≤i:=by omega
      by_cases q2:i<256
      · have d2:(i:Int)<256:=by omega
        have hx:fixF i=9:=by rw[fixF,if_pos ⟨q1,q2⟩]
        rw[hx]at hg bt
        simp only[I]at *
        simp only[AP.f22L0,go_sem,aaW c1,aaW d1,aaW d2]
        rw[bt _ rfl]
        simp only[go_sem,←hg,ap,w1]
      · have d2:¬(i:Int)<256:=by omega
        have d3:(256:Int)≤i:=by omega
        by_cases q3:i<280
        · have d4:(i:Int)<280:=by omega
          have hx:fixF i=7:=by rw[fixF,if_neg (by omega),if_pos ⟨by omega,q3⟩]
          rw[hx]at hg bt
          simp only[I]at *
          simp only[AP.f22L0,go_sem,aaW c1,aaW d1,aaU d2,aaW d3,aaW d4]
          rw[bt _ rfl]
          simp only[go_sem,←hg,ap,w1]
        · have d4:¬(i:Int)<280:=by omega
          have hx:fixF i=8:=by rw[fixF,if_neg (by omega),if_neg (by omega)]
          rw[hx]at hg bt
          simp only[I]at *
          simp only[AP.f22L0,go_sem,aaW c1,aaW d1,aaU d2,aaW d3,aaU d4]
          rw[bt _ rfl]
          simp only[go_sem,←hg,ap,w1]
    · have d1:¬(144:Int)≤i:=by omega
      have d3:¬(256:Int)≤i:=by omega
      have hx:fixF i=8:=by rw[fixF,if_neg (by omega),if_neg (by omega)]
      rw[hx]at hg bt
      simp only[I]at *
      simp only[AP.f22L0,go_sem,aaW c1,aaU d1,aaU d3]
      rw[bt _ rfl]
      simp only[go_sem,←hg,ap,w1]
   obtain⟨e',h',v2,s1,s2,s3,s4⟩:=Ee m (i+1) h2 v' (by omega) r2 (by rw[r3];exact xq hgf r4)
   exact⟨e',h',v2,u9 step s1,s2,s3,by rw[s4,r3,hg];simp⟩
theorem Lg:(List.range 288).map fixF=yV:=by decide+kernel
theorem MJ (h:H):aU AP.A 22 [] h=some (xU yV,h):=by
 obtain⟨e',h',v',s1,s2,s3,s4⟩:=Ee 288 0 h.eO .aS rfl (.inl ⟨rfl,rfl⟩) (wU _)
 have s1':Lp AP.A [1,2] AP.f22L0 [(1,.aS),(2,I 0)] h.eO=some (.exit 0,e',h'):=s1
 clear s1
 rw[Lg]at s3
 refine vP (fn:=AP.f22) (h2:=h') (e:=[(0,v')]) (vs:=[v']) rfl rfl rfl ?_ rfl ?_
 · simp only[I]at *
   simp only[AP.f22,go_sem,uo,s1',s2]
 · exact Aa s3 (by rw[s4];exact wU _) (by intro e;have:=abt List.length e;rw[A3]at this;simp at this)
theorem E1 (id : Nat) : ∀ (m i : Nat) (h : H), i + m = 30 → h.get id = some (ints (List.replicate i 5 ++ List.replicate m 0)) → h.floor ≤ id →
 ∃e' h',Lp AP.A [1,2] AP.f23L0 [(1,.aH id 0 30 1),(2,I i)] h=some (.exit 0,e',h')∧look e' 1=.aH id 0 30 1∧h'.get id=some (ints (List.replicate 30 5))∧h'.floor=h.floor
 | 0, i, h, hm, hg, hf => by
   obtain rfl:i=30:=by omega
   refine⟨[(1,.aH id 0 30 1),(2,I 30),(5,.bool false)],h,u6 ?_,rfl,hg,rfl⟩
   have c1:¬(((30:Nat):Int)<30):=by omega
   simp only[I]at *
   simp only[AP.f23L0,go_sem,aaU c1]
   rfl
 | m + 1, i, h, hm, hg, hf => by
   have c1:(i:Int)<30:=by omega
   have w1:IntKind.wrap .i64 ((i:Int)+1)=((i+1:Nat):Int):=xy (n:=i+1) (by omega)
   have ia:gZ 1 (.aH id 0 30 1) (I i)=some (.aG id i):=by simp [gZ,lJ (show i<30 by omega)]
   have hset:(ints (List.replicate i 5++List.replicate (m+1) 0)).set i (I 5)=ints (List.replicate (i+1) 5++List.replicate m 0):=by
    have h1:(List.replicate i (5:Int)++List.replicate (m+1) 0).set i 5=List.replicate (i+1) 5++List.replicate m 0:=by
     rw[List.set_append_right _ _ (by simp),abk,Nat.sub_self,List.replicate_succ,List.set_cons_zero,List.replicate_succ',List.append_assoc];rfl
    rw[←h1];simp [ints,List.map_set]
   have hst:vR h id i 1 [I 5] (some (ints (List.replicate i 5++List.replicate (m+1) 0)))=some (h.set id (ints (List.replicate (i+1) 5++List.replicate m 0))):=by
    rw[wx hf (by rw[rk];simp) rfl,hset]
   have step:aO (aU AP.A) bH AP.f23L0 (ay [(1,.aH id 0 30 1),(2,I i)] [1,2]) h=some (.normal,[(1,.aH id 0 30 1),(2,I (i+1:Nat))],h.set id (ints (List.replicate (i+1) 5++List.replicate m 0))):=by
    clear hset
    generalize ints (List.replicate (i+1) 5++List.replicate m 0)=L1 at *
    generalize ints (List.replicate i 5++List.replicate (m+1) 0)=L0 at *
    simp only[I]at *
    simp only[AP.f23L0,go_sem,aaW c1,ia,hg,hst,w1]
   obtain⟨e',h',s1,s2,s3,s4⟩:=E1 id m (i+1) _ (by omega) (by rw[H.dY,if_pos rfl,hg];rfl) (by simpa using hf)
   exact⟨e',h',u9 step s1,s2,s3,by rw[s4];simp⟩
theorem Ou (h:H):aU AP.A 23 [] h=some (xU (List.replicate 30 5),h):=by
 obtain⟨h1,hh1⟩:∃g,g=h.eO.alloc (ints (List.replicate 30 0)):=⟨_,rfl⟩
 have hg:h1.get h.next=some (ints (List.replicate 0 5++List.replicate 30 0)):=by rw[hh1,H.aZ,if_pos (show h.next=h.eO.next from rfl)];rfl
 obtain⟨e',h',s1,s2,s3,s4⟩:=E1 h.next 30 0 h1 rfl hg (by rw[hh1];simp)
 have s1':Lp AP.A [1,2] AP.f23L0 [(1,.aH h.next 0 30 1),(2,I 0)] h1=some (.exit 0,e',h'):=s1
 clear s1
 have bt:∀e:Env,bg e (.jI 1 8 [.int .i64 0] (.c (.int .i64 30)) (.c (.int .i64 30)))=some (ints (List.replicate 30 0),fun i=>.aH i 0 30 1):=fun _=>rfl
 have hn:h.eO.next=h.next:=rfl
 refine vP (fn:=AP.f23) (h2:=h') (e:=[(0,.aH h.next 0 30 1)]) (vs:=[.aH h.next 0 30 1]) rfl rfl rfl ?_ rfl ?_
 · simp only[I]at *
   simp only[AP.f23,go_sem,bt,←hh1,hn,uo,s1',s2]
 · exact Aa (l:=List.replicate 30 5) (.inr ⟨h.next,rfl,s3,by rw[s4,hh1];simp,by decide⟩) (by rw[s4,hh1];simp) (by decide)
theorem Gu {x:AV} {l:List Int} (hl:l.length<100000) (h:H) (rd:Rd h x (ints l)):∀(q p:List Int),l=p++q→
 (∃e',Lp AP.A [0,3] AP.f67L0 [(0,x),(3,I p.length)] h=some (.exit 0,e',h)∧(ints q).any CD=false)∨(∃e',Lp AP.A [0,3] AP.f67L0 [(0,x),(3,I p.length)] h=some (.ret,e',h)∧look e' 2=.bool false∧(ints q).any CD=true)
 | [], p, hp => by
   have ln:=rd.len
   rw[rk]at ln
   left
   refine⟨[(0,x),(3,I p.length),(15,.bool false)],u6 ?_,rfl⟩
   have c1:¬(p.length:Int)<(l.length:Int):=by rw[hp];simp
   simp only[I]at *
   simp only[AP.f67L0,go_sem,ln,aaU c1]
 | y :: q, p, hp => by
   have ln:=rd.len
   rw[rk]at ln
   have hlen:l.length=p.length+(q.length+1):=by rw[hp];simp
   have c1:(p.length:Int)<(l.length:Int):=by omega
   have hv:(ints l)[p.length]?=some (I y):=uM (by rw[hp];simp)
   obtain⟨ad,p1,p2⟩:=rd.elem hv
   have p3:=p2 h (fun _ _ q=>q)
   have w1:IntKind.wrap .i64 ((p.length:Int)+1)=(((p++[y]).length:Nat):Int):=by
    rw[xu];exact xy (n:=p.length+1) (by omega)
   have hany:(ints (y::q)).any CD=(CD (I y)||(ints q).any CD):=rfl
   rw[hany]
   by_cases d1:y<0
   · right
     refine⟨[(2,.bool false)],vF ?_,rfl,by simp [CD,I,d1]⟩
     simp only[I]at *
     simp only[AP.f67L0,go_sem,ln,aaW c1,p1,p3,aaW d1]
   by_cases d2:15<y
   · right
     refine⟨[(2,.bool false)],vF ?_,rfl,by simp [CD,I,d2]⟩
     simp only[I]at *
     simp only[AP.f67L0,go_sem,ln,aaW c1,p1,p3,aaU d1,aaW d2]
   have hb:CD (I y)=false:=by simp [CD,I];omega
   have step:aO (aU AP.A) bH AP.f67L0 (ay [(0,x),(3,I p.length)] [0,3]) h=some (.normal,[(0,x),(3,I (p++[y]).length)],h):=by
    clear hany hb
    generalize (p++[y]).length=B at *
    simp only[I]at *
    simp only[AP.f67L0,go_sem,ln,aaW c1,p1,p3,aaU d1,aaU d2,w1]
   rw[hb,abp]
   rcases Gu hl h rd q (p++[y]) (by rw[hp];simp)with ⟨e',r1,r2⟩|⟨e',r1,r2,r3⟩
   · exact .inl ⟨e',u9 step r1,r2⟩
   · exact .inr ⟨e',u9 step r1,r2,r3⟩
theorem U6 (h:H) (x:AV) (l:List Int) (hl:l.length<100000) (rd:Rd h x (ints l)):aU AP.A 67 [x] h=some (.bool (Eo l),h):=by
 have rd':=rd.mono (xY h)
 have ln:=rd.len
 rw[rk]at ln
 unfold Eo
 by_cases c1:l.length<1
 · refine vP (fn:=AP.f67) (h2:=h.eO) (e:=[(2,.bool false)]) rfl rfl rfl ?_ rfl (by rw[aaU (show¬1≤l.length by omega)];rfl)
   have c1':(l.length:Int)<1:=by omega
   simp only[I]at *
   simp only[AP.f67,go_sem,ln,aaW c1']
 have c1':¬(l.length:Int)<1:=by omega
 by_cases c2:288<l.length
 · refine vP (fn:=AP.f67) (h2:=h.eO) (e:=[(2,.bool false)]) rfl rfl rfl ?_ rfl (by rw[aaU (show¬l.length≤288 by omega),aa9];rfl)
   have c2':(288:Int)<(l.length:Int):=by omega
   simp only[I]at *
   simp only[AP.f67,go_sem,ln,aaU c1',aaW c2']
 have c2':¬(288:Int)<(l.length:Int):=by omega
 rw[aaW (show 1≤l.length by omega),aaW (show l.length≤288 by omega)]
 rcases Gu hl h.eO rd' l [] rfl with ⟨e',r1,r2⟩|⟨e',r1,r2,r3⟩
 · have r1':Lp AP.A [0,3] AP.f67L0 [(0,x),(3,I 0)] h.eO=some (.exit 0,e',h.eO):=r1
   clear r1
   rw[r2]
   refine vP (fn:=AP.f67) (h2:=h.eO) (e:=[(2,.bool true)]) rfl rfl rfl ?_ rfl rfl
   simp only[I]at *
   simp only[AP.f67,go_sem,ln,aaU c1',aaU c2',uo,r1']
 · have r1':Lp AP.A [0,3] AP.f67L0 [(0,x),(3,I 0)] h.eO=some (.ret,e',h.eO):=r1
   clear r1
   rw[r3]
   refine vP (fn:=AP.f67) (h2:=h.eO) (e:=e') (vs:=[.bool false]) rfl rfl rfl ?_ (by simp only[AP.f67,c9,oL,r2];rfl) rfl
   simp only[I]at *
   simp only[AP.f67,go_sem,ln,aaU c1',aaU c2',uo,r1']
theorem Fg (p:List Int) (x:Int):∀n:Nat,yj (p++[x]) n=yj p n-(if 1≤x∧x≤n then 2^(n-x.toNat)else 0)
 | 0 => by
   rw[if_neg (by omega)];simp [yj]
 | n + 1 => by
   have e1:yj (p++[x]) (n+1)=yj (p++[x]) n* 2-Au (p++[x]) (n+1):=rfl
   have e2:yj p (n+1)=yj p n* 2-Au p (n+1):=rfl
   rw[e1,e2,Fg p x n,Da]
   by_cases h1:x=((n+1:Nat):Int)
   · rw[if_neg (by omega),if_pos ⟨by omega,h1⟩,if_pos (by omega)]
     rw[show n+1-x.toNat=0 by omega];simp;omega
   · rw[if_neg (show¬(n+1≠0∧x=((n+1:Nat):Int))from fun q=>h1 q.2)]
     by_cases h2:1≤x∧x≤(n:Int)
     · rw[if_pos h2,if_pos (by omega),show n+1-x.toNat=(n-x.toNat)+1 by omega,Int.pow_succ];omega
     · rw[if_neg h2,if_neg (by omega)];omega
theorem GK {x : AV} {l : List Int} (hl : l.length < 100000) (hr : zY l) (h : H) (rd : Rd h x (ints l)) : ∀ (q p : List Int), l = p ++ q →
 ∃e',Lp AP.A [0,3,4] AP.f68L0 [(0,x),(3,I (32768-yj p 15)),(4,I p.length)] h=some (.exit 0,e',h)∧look e' 3=I (32768-yj l 15)
 | [], p, hp => by
   rw[aa2]at hp;subst hp
   have ln:=rd.len
   rw[rk]at ln
   refine⟨[(0,x),(3,I (32768-yj l 15)),(4,I l.length),(8,.bool false)],u6 ?_,rfl⟩
   have c1:¬(l.length:Int)<(l.length:Int):=by omega
   simp only[I]at *
   simp only[AP.f68L0,go_sem,ln,aaU c1]
 | y :: q, p, hp => by
   have ln:=rd.len
   rw[rk]at ln
   have hlen:l.length=p.length+(q.length+1):=by rw[hp];simp
   have c1:(p.length:Int)<(l.length:Int):=by omega
   have hv:(ints l)[p.length]?=some (I y):=uM (by rw[hp];simp)
   have hy:=hr y (by rw[hp];simp)
   obtain⟨ad,p1,p2⟩:=rd.elem hv
   have p3:=p2 h (fun _ _ q=>q)
   have w1:IntKind.wrap .i64 ((p.length:Int)+1)=(((p++[y]).length:Nat):Int):=by
    rw[xu];exact xy (n:=p.length+1) (by omega)
   have hsn:=Fg p y 15
   have hbd:=Ii (show p.length<100000 by omega) 15
   have step:aO (aU AP.A) bH AP.f68L0 (ay [(0,x),(3,I (32768-yj p 15)),(4,I p.length)] [0,3,4]) h=some (.normal,[(0,x),(3,I (32768-yj (p++[y]) 15)),(4,I (p++[y]).length)],h):=by
    by_cases d1:0<y
    · obtain⟨yn,hyn⟩:∃n:Nat,y=n:=abd hy.1
      subst hyn
      rw[if_pos (by omega),abq]at hsn
      have w2:IntKind.wrap .i64 (15-(yn:Int))=((15-yn:Nat):Int):=by rw[show 15-(yn:Int)=((15-yn:Nat):Int)by omega];exact xy (by omega)
      have hp15:2^(15-yn)≤2^15:=abb (by omega) (by omega)
      have s1:qL .shl .i64 1 ((15-yn:Nat):Int)=some (.int .i64 ((2^(15-yn):Nat):Int)):=by
       have:=AO (a:=1) (s:=15-yn) (by omega) (by omega)
       rw[Nat.one_mul]at this;exact this
      have hpc:((2^(15-yn):Nat):Int)=2^(15-yn):=by simp
      have hpos:(0:Int)≤2^(15-yn):=Int.pow_nonneg (by omega)
      have w3:IntKind.wrap .i64 (32768-yj p 15+((2^(15-yn):Nat):Int))=32768-yj (p++[(yn:Int)]) 15:=by
       rw[show 32768-yj p 15+((2^(15-yn):Nat):Int)=32768-yj (p++[(yn:Int)]) 15 by rw[hsn,hpc];omega]
       refine vC ?_ ?_
       · rw[hsn];rw[←hpc];omega
       · rw[hsn];rw[←hpc];omega
      clear hsn hpc hbd hp15
      generalize (p++[(yn:Int)]).length=B at *
      generalize yj (p++[(yn:Int)]) 15=L2 at *
      generalize yj p 15=L1 at *
      generalize 2^(15-yn)=PW at *
      simp only[I]at *
      simp only[AP.f68L0,go_sem,ln,aaW c1,p1,p3,aaW d1,w2,s1,w3,w1]
    · rw[if_neg (by omega),Int.sub_zero]at hsn
      rw[hsn]
      clear hsn hbd
      generalize (p++[y]).length=B at *
      simp only[I]at *
      simp only[AP.f68L0,go_sem,ln,aaW c1,p1,p3,aaU d1,w1]
   obtain⟨e',r1,r2⟩:=GK hl hr h rd q (p++[y]) (by rw[hp];simp)
   exact⟨e',u9 step r1,r2⟩
theorem Vr (h:H) (x:AV) (l:List Int) (hl:l.length<100000) (hr:zY l) (rd:Rd h x (ints l)):aU AP.A 68 [x] h=some (I (32768-yj l 15),h):=by
 obtain⟨e',r1,r2⟩:=GK hl hr h.eO (rd.mono (xY h)) l [] rfl
 have r1':Lp AP.A [0,3,4] AP.f68L0 [(0,x),(3,I 0),(4,I 0)] h.eO=some (.exit 0,e',h.eO):=r1
 clear r1
 refine vP (fn:=AP.f68) (h2:=h.eO) (e:=[(2,I (32768-yj l 15))]) rfl rfl rfl ?_ rfl rfl
 simp only[I]at *
 simp only[AP.f68,go_sem,uo,r1',r2]
theorem ES (h : H) (x : AV) (l : List Int) (hl : l.length < 100000) (rd : Rd h x (ints l)) : aU AP.A 52 [x] h = some (I (yf l), h) := by
 have rd':=rd.mono (xY h)
 have k1:=U6 h.eO x l hl rd'
 unfold yf
 by_cases hm:Eo l=true
 · have k2:=Vr h.eO x l hl (GC hm) rd'
   rw[hm]at k1 ⊢
   rw[if_neg (by decide)]
   by_cases c1:yj l 15<0
   · rw[if_pos c1]
     have d1:32768<32768-yj l 15:=by omega
     refine vP (fn:=AP.f52) (h2:=h.eO) (e:=[(2,I 301)]) rfl rfl rfl ?_ rfl rfl
     simp only[I]at *
     simp only[AP.f52,go_sem,k1,k2,aaW d1]
   · rw[if_neg c1]
     have d1:¬32768<32768-yj l 15:=by omega
     by_cases c2:0<yj l 15
     · rw[if_pos c2]
       have d2:32768-yj l 15<32768:=by omega
       refine vP (fn:=AP.f52) (h2:=h.eO) (e:=[(2,I 302)]) rfl rfl rfl ?_ rfl rfl
       simp only[I]at *
       simp only[AP.f52,go_sem,k1,k2,aaU d1,aaW d2]
     · rw[if_neg c2]
       have d2:¬32768-yj l 15<32768:=by omega
       refine vP (fn:=AP.f52) (h2:=h.eO) (e:=[(2,I 0)]) rfl rfl rfl ?_ rfl rfl
       simp only[I]at *
       simp only[AP.f52,go_sem,k1,k2,aaU d1,aaU d2]
 · have hm':Eo l=false:=by simpa using hm
   rw[hm']at k1 ⊢
   rw[if_pos rfl]
   refine vP (fn:=AP.f52) (h2:=h.eO) (e:=[(2,I 300)]) rfl rfl rfl ?_ rfl rfl
   simp only[I]at *
   simp only[AP.f52,go_sem,k1]
theorem Cj {x : AV} {l : List Int} (hl : l.length < 100000) (hr : zY l) (h : H) (rd : Rd h x (ints l)) : ∀ (q p : List Int) (m b s : Int), l = p ++ q → 0 ≤ m → m ≤ p.length → m ≤ s → (m = 0 → s = 0) → (m = 1 → b = s) →
 ∃e' m' b',Lp AP.A [0,3,4,5] AP.f54L0 [(0,x),(3,I m),(4,I b),(5,I p.length)] h=some (.exit 0,e',h)∧look e' 3=I m'∧look e' 4=I b'∧0≤m'∧m'≤JB q s∧(m'=0→JB q s=0)∧(m'=1→b'=JB q s)
 | [], p, m, b, s, hp, h1, h2, h3, h4, h5 => by
   have ln:=rd.len
   rw[rk]at ln
   refine⟨[(0,x),(3,I m),(4,I b),(5,I p.length),(9,.bool false)],m,b,u6 ?_,rfl,rfl,h1,h3,h4,h5⟩
   have c1:¬(p.length:Int)<(l.length:Int):=by rw[hp];simp
   simp only[I]at *
   simp only[AP.f54L0,go_sem,ln,aaU c1]
 | y :: q, p, m, b, s, hp, h1, h2, h3, h4, h5 => by
   have ln:=rd.len
   rw[rk]at ln
   have hlen:l.length=p.length+(q.length+1):=by rw[hp];simp
   have c1:(p.length:Int)<(l.length:Int):=by omega
   have hv:(ints l)[p.length]?=some (I y):=uM (by rw[hp];simp)
   have hy:=hr y (by rw[hp];simp)
   obtain⟨ad,p1,p2⟩:=rd.elem hv
   have p3:=p2 h (fun _ _ q=>q)
   have w1:IntKind.wrap .i64 ((p.length:Int)+1)=(((p++[y]).length:Nat):Int):=by
    rw[xu];exact xy (n:=p.length+1) (by omega)
   by_cases d1:0<y
   · have w2:IntKind.wrap .i64 (m+1)=m+1:=vC (by omega) (by omega)
     have step:aO (aU AP.A) bH AP.f54L0 (ay [(0,x),(3,I m),(4,I b),(5,I p.length)] [0,3,4,5]) h=some (.normal,[(0,x),(3,I (m+1)),(4,I y),(5,I (p++[y]).length)],h):=by
      generalize hB:(p++[y]).length=B at *
      simp only[I]at *
      simp only[AP.f54L0,go_sem,ln,aaW c1,p1,p3,aaW d1,w2,w1]
     obtain⟨e',m',b',r1,r2⟩:=Cj hl hr h rd q (p++[y]) (m+1) y (s+y) (by rw[hp];simp) (by omega) (by simp;omega) (by omega) (by omega) (by intro e;have:=h4 (by omega);omega)
     exact⟨e',m',b',u9 step r1,r2⟩
   · have hy0:y=0:=by omega
     have step:aO (aU AP.A) bH AP.f54L0 (ay [(0,x),(3,I m),(4,I b),(5,I p.length)] [0,3,4,5]) h=some (.normal,[(0,x),(3,I m),(4,I b),(5,I (p++[y]).length)],h):=by
      generalize hB:(p++[y]).length=B at *
      simp only[I]at *
      simp only[AP.f54L0,go_sem,ln,aaW c1,p1,p3,aaU d1,w1]
     obtain⟨e',m',b',r1,r2⟩:=Cj hl hr h rd q (p++[y]) m b (s+y) (by rw[hp];simp) h1 (by simp;omega) (by omega) (by intro e;have:=h4 e;omega) (by intro e;have:=h5 e;omega)
     exact⟨e',m',b',u9 step r1,r2⟩
theorem ND (h:H) (x:AV) (l:List Int) (hl:l.length<100000) (hr:zY l) (rd:Rd h x (ints l)):aU AP.A 54 [x] h=some (.bool (zh l),h):=by
 obtain⟨e',m',b',r1,r2,r3,r4,r5,r6,r7⟩:=Cj hl hr h.eO (rd.mono (xY h)) l [] 0 0 0 rfl (by omega) (by simp) (by omega) (by intro _;rfl) (by omega)
 have r1':Lp AP.A [0,3,4,5] AP.f54L0 [(0,x),(3,I 0),(4,I 0),(5,I 0)] h.eO=some (.exit 0,e',h.eO):=r1
 clear r1
 refine vP (fn:=AP.f54) (h2:=h.eO) (e:=[(2,.bool (zh l))]) rfl rfl rfl ?_ rfl rfl
 unfold zh
 generalize JB l 0=s at *
 by_cases c0:m'=0
 · have d0:=vW c0
   have hs:s≤1:=by have:=r6 c0;omega
   rw[aaW hs]
   simp only[I]at *
   simp only[AP.f54,go_sem,uo,r1',r2,r3,d0]
 have d0:=vV c0
 by_cases c1:m'=1
 · have d1:=vW c1
   have hb:=r7 c1
   by_cases c2:b'=1
   · have d2:=vW c2
     rw[aaW (show s≤1 by omega)]
     simp only[I]at *
     simp only[AP.f54,go_sem,uo,r1',r2,r3,d0,d1,d2]
   · have d2:=vV c2
     rw[aaU (show¬s≤1 by omega)]
     simp only[I]at *
     simp only[AP.f54,go_sem,uo,r1',r2,r3,d0,d1,d2]
 · have d1:=vV c1
   rw[aaU (show¬s≤1 by omega)]
   simp only[I]at *
   simp only[AP.f54,go_sem,uo,r1',r2,r3,d0,d1]
theorem FE {c:FC} {S:SS} {h:H} {ov:AV} (st:Ft c S h ov) (b:AV) (many times n:Int) (v:AV) (i:Int) (hs:times≤i∨(i<times∧S.e≠0)):
 ∃e',Lp AP.A [0,1,2,7,9,10,11] AP.f53L0 [(0,.aG c.f 0),(1,b),(2,I many),(7,v),(9,I times),(10,I n),(11,I i)] h=some (.exit 3,e',h)∧look e' 0=.aG c.f 0∧look e' 1=b∧look e' 2=I many∧look e' 7=v:=by
 have gf:=st.gf
 refine⟨[(0,.aG c.f 0),(1,b),(2,I many),(7,v),(9,I times),(10,I n),(11,I i),(83,.bool false)],u6 ?_,rfl,rfl,rfl,rfl⟩
 rcases hs with hn|⟨hn,he⟩
 · have c1:¬i<times:=by omega
   simp only[I]at *
   simp only[AP.f53L0,go_sem,aaU c1]
 · have c2:=vV he
   simp only[I]at *
   simp only[AP.f53L0,go_sem,aaW hn,gf,c2]
theorem IJ {c:FC} (h0:H) {S:SS} {ov:AV} (he:S.e=0) (b:AV) (many:Int) (n:Int) (times:Nat) (ht:times≤1000):∀(m i:Nat) (acc:List Int) (h:H) (v:AV),i+m=times→Ft c S h ov→FF c h0 ov h ov→oU h v (ints acc)→acc.length<100000+i→(∀j,v.id?=some j→h0.next≤j)→(∀j,(j=c.f∨ov.id?=some j)→j<h0.next)→
 ∃e' h' v',Lp AP.A [0,1,2,7,9,10,11] AP.f53L0 [(0,.aG c.f 0),(1,b),(2,I many),(7,v),(9,I times),(10,I n),(11,I i)] h=some (.exit 3,e',h')∧look e' 0=.aG c.f 0∧look e' 1=b∧look e' 2=I many∧look e' 7=v'∧Ft c S h' ov∧FF c h0 ov h' ov∧oU h' v' (ints (acc++List.replicate m n))∧∀j,v'.id?=some j→h0.next≤j
 | 0, i, acc, h, v, hm, st, fr, o, hal, hid, hlo => by
   obtain⟨e',q1,q2,q3,q4,q5⟩:=FE st b many times n v i (.inl (by omega))
   exact⟨e',h,v,q1,q2,q3,q4,q5,st,fr,by simpa using o,hid⟩
 | m + 1, i, acc, h, v, hm, st, fr, o, hal, hid, hlo => by
   have gf:=st.gf
   rw[he]at gf
   have c1:(i:Int)<times:=by omega
   have w1:IntKind.wrap .i64 ((i:Int)+1)=((i+1:Nat):Int):=xy (n:=i+1) (by omega)
   obtain⟨g,hg⟩:∃g,g=h.alloc [I n]:=⟨_,rfl⟩
   have al:=st.alloc [I n]
   rw[←hg]at al
   have og:oU g v (ints acc):=o.mono (by rw[hg];simp) fun j hj=>by have:=o.lt hj;rw[hg,H.aZ,if_neg (by omega)]
   have hgf:=al.1.nx
   obtain⟨v',h2,r1,r2,r3,r4,r5,r6⟩:=og.app hgf (z:=8) (I n) rfl (by simp [roomy];omega)
   have src:aV g 1 (.aH h.next 0 1 1)=some (1,[I n]):=by simp [aV,hg,H.aZ]
   have ap:mo g 1 8 v (.aH h.next 0 1 1)=some (v',h2):=by unfold mo;rw[src,wP];exact r1
   have bt:∀e:Env,look e 87=.int .i64 n→bg e (.dj 1 1 [.int .i64 0] [(0,.t 87)])=some ([.int .i64 n],fun i=>.aH i 0 1 1):=by
    intro e q;simp only[bg,aa5,abn,ur,q];rfl
   have step:aO (aU AP.A) bH AP.f53L0 (ay [(0,.aG c.f 0),(1,b),(2,I many),(7,v),(9,I times),(10,I n),(11,I i)] [0,1,2,7,9,10,11]) h=some (.normal,[(0,.aG c.f 0),(1,b),(2,I many),(7,v'),(9,I times),(10,I n),(11,I (i+1:Nat))],h2):=by
    simp only[I]at *
    simp only[AP.f53L0,go_sem,aaW c1,gf]
    rw[bt _ rfl]
    simp only[go_sem,←hg,ap,w1]
   have frg:=fr.trans al.2
   have st2:Ft c S h2 ov:=al.1.yR r3 r4 fun j hj=>r5 j (fun e=>by have:=hid j e;have:=hlo j hj;omega) (by have:=hlo j hj;have:=frg.nx;omega)
   have fr2:FF c h0 ov h2 ov:=⟨r3.trans frg.fl,xq frg.nx r4,fun id i1 i2 i4=>by rw[r5 id (fun e=>by have:=hid id e;omega) (by have:=frg.nx;omega)];exact frg.Ek id i1 i2 i4,fun j hj=>.inl hj⟩
   have hr:ints acc++[I n]=ints (acc++[n]):=by rw[rj];rfl
   rw[hr]at r2
   obtain⟨e',h',v2,s1,s2,s3,s4,s5,s6,s7,s8,s9⟩:=IJ h0 he b many n times ht m (i+1) (acc++[n]) h2 v' (by omega) st2 fr2 r2 (by simp;omega) (fun j hj=>by rw[r6]at hj;cases hj;exact frg.nx) hlo
   refine⟨e',h',v2,u9 step s1,s2,s3,s4,s5,s6,s7, ?_,s9⟩
   rw[List.replicate_succ,show acc++n::List.replicate m n=acc++[n]++List.replicate m n by simp]
   exact s8
theorem CN {c:FC} {S:SS} {h:H} {ov:AV} (st:Ft c S h ov) (b:AV) (many:Nat) {v:AV} {acc:List Int} (o:oU h v (ints acc)) (hs:many≤acc.length∨(acc.length<many∧S.e≠0)):
 ∃e',Lp AP.A [0,1,2,7] AP.f53L1 [(0,.aG c.f 0),(1,b),(2,I many),(7,v)] h=some (.exit 0,e',h)∧look e' 7=v:=by
 have gf:=st.gf
 have ln:=o.len
 rw[rk]at ln
 refine⟨[(0,.aG c.f 0),(1,b),(2,I many),(7,v),(22,.bool false)],u6 ?_,rfl⟩
 rcases hs with hs|⟨hs,he⟩
 · have c1:¬(acc.length:Int)<many:=by omega
   simp only[I]at *
   simp only[AP.f53L1,go_sem,ln,aaU c1]
 · have c1:(acc.length:Int)<many:=by omega
   have c2:=vV he
   simp only[I]at *
   simp only[AP.f53L1,go_sem,ln,aaW c1,gf,c2]
theorem Jp {c : FC} {S2 : SS} {h2 : H} {ov : AV} (h0 : H) (cl : List Int) (many : Nat) (hm : many ≤ 400) {v : AV} {acc : List Int} (st : Ft c S2 h2 ov) (fr : FF c h0 ov h2 ov) (o : oU h2 v (ints acc)) (hal : acc.length < many) (hid : ∀ j, v.id? = some j → h0.next ≤ j) (hlo : ∀ j, (j = c.f ∨ ov.id? = some j) → j < h0.next) (n : Int) (times : Nat) (ht : times ≤ 1000) (he2 : S2.e = 0 ∨ S2.e = 700) (code : aI)
 (hcode:code=(.seq (.seq (.qz [⟨(some 59),.mv (.t 0),none⟩,⟨(some 60),.pP (.t 59),none⟩,⟨(some 61),.pF 4 (.t 60),none⟩,⟨(some 62),.load false 1 (.t 61),none⟩,⟨(some 63),.bin .eql (.t 62) (.c (.int .i64 0)),none⟩,⟨(some 64),.mv (.t 63),none⟩,⟨(some 65),.mv (.t 7),(some (64,true))⟩,⟨(some 66),.len false (.t 65),(some (64,true))⟩,⟨(some 67),.mv (.t 9),(some (64,true))⟩,⟨(some 68),.bin .add (.t 66) (.t 67),(some (64,true))⟩,⟨(some 69),.mv (.t 2),(some (64,true))⟩,⟨(some 70),.bin .gtr (.t 68) (.t 69),(some (64,true))⟩,⟨(some 71),.pick (.t 64) (.t 70) (.c (.bool false)),none⟩] [0,1,2,7,9,10,71]) (.cond (.t 71) (.qz [⟨(some 72),.mv (.t 0),none⟩,⟨(some 73),.call (.c (.fn 25 [] [])) [(.t 72)],none⟩] [0,1,2,7,9,10]) (.skip) [0,1,2,7,9,10])) (.seq (.qz [⟨(some 11),.mv (.c (.int .i64 0)),none⟩] [0,1,2,7,9,10,11]) (.block 3 (.loop [0,1,2,7,9,10,11] AP.f53L0) [0,1,2,7])))):
 ∃ h3 S3 v3, aO (aU AP.A) bH code [(0, .aG c.f 0), (1, xS cl), (2, I many), (7, v), (9, I times), (10, I n)] h2 = some (.normal, [(0, .aG c.f 0), (1, xS cl), (2, I many), (7, v3)], h3) ∧ Ft c S3 h3 ov ∧ FF c h0 ov h3 ov ∧
   ((S2.e=0∧acc.length+times≤many∧S3=S2∧oU h3 v3 (ints (acc++List.replicate times n))∧∀j,v3.id?=some j→h0.next≤j)∨((S2.e≠0∨many<acc.length+times)∧S3.e=700∧v3=v∧oU h3 v (ints acc))):=by
 have gf:=st.gf
 have ln:=o.len
 rw[rk]at ln
 subst hcode
 have w1:IntKind.wrap .i64 ((acc.length:Int)+times)=((acc.length+times:Nat):Int):=by rw[show(acc.length:Int)+times=((acc.length+times:Nat):Int)by omega];exact xy (by omega)
 by_cases he:S2.e=0
 · have ce:=vW he
   by_cases hgt:many<acc.length+times
   · have d1:(many:Int)<((acc.length+times:Nat):Int):=by omega
     obtain⟨h3,f1,f2,f3⟩:=Ap st
     have he3:(xM 700 S2).e=700:=by simp [xM,he]
     have hs:(times:Int)≤0∨((0:Int)<times∧(xM 700 S2).e≠0):=by
      by_cases q:0<times
      · exact .inr ⟨by omega,by rw[he3];decide⟩
      · exact .inl (by omega)
     obtain⟨e',q1,q2,q3,q4,q5⟩:=FE f2 (xS cl) many times n v 0 hs
     have o3:oU h3 v (ints acc):=o.mono f3.fl fun j hj=>f3.Ek j (o.lt hj) (fun e=>by have:=hid j hj;have:=hlo j (.inl e);omega) (fun e=>by have:=hid j hj;have:=hlo j (.inr e);omega)
     refine⟨h3,xM 700 S2,v, ?_,f2,fr.trans f3,.inr ⟨.inr hgt,he3,rfl,o3⟩⟩
     simp only[I]at *
     simp only[go_sem,gf,ce,ln,w1,aaW d1,f1,uo,q1,q2,q3,q4,q5]
   · have d1:¬(many:Int)<((acc.length+times:Nat):Int):=by omega
     obtain⟨e',h3,v3,q1,q2,q3,q4,q5,q6,q7,q8,q9⟩:=IJ h0 he (xS cl) many n times ht times 0 acc h2 v (by omega) st fr o (by omega) hid hlo
     have q1':Lp AP.A [0,1,2,7,9,10,11] AP.f53L0 [(0,.aG c.f 0),(1,xS cl),(2,I many),(7,v),(9,I times),(10,I n),(11,I 0)] h2=some (.exit 3,e',h3):=q1
     clear q1
     refine⟨h3,S2,v3, ?_,q6,q7,.inl ⟨he,by omega,rfl,q8,q9⟩⟩
     simp only[I]at *
     simp only[go_sem,gf,ce,ln,w1,aaU d1,uo,q1',q2,q3,q4,q5]
 · have ce:=vV he
   have he3:S2.e=700:=by rcases he2 with q|q;exact absurd q he;exact q
   have hs:(times:Int)≤0∨((0:Int)<times∧S2.e≠0):=by
    by_cases q:0<times
    · exact .inr ⟨by omega,he⟩
    · exact .inl (by omega)
   obtain⟨e',q1,q2,q3,q4,q5⟩:=FE st (xS cl) many times n v 0 hs
   refine⟨h2,S2,v, ?_,st,fr,.inr ⟨.inl he,he3,rfl,o⟩⟩
   simp only[I]at *
   simp only[go_sem,gf,ce,ln,w1,uo,q1,q2,q3,q4,q5]
theorem E3 {c : FC} (h0 : H) (cl : List Int) (hcl : cl.length < 1000) (many : Nat) (hm : many ≤ 400) : ∀ (f : Nat) (acc : List Int) (S : SS) (h : H) (ov v : AV), Ft c S h ov → S.e = 0 → 8 * c.text.size < S.at_ + f → FF c h0 ov h ov → oU h v (ints acc) → acc.length ≤ many → (∀ j, v.id? = some j → h0.next ≤ j) → (∀ j, (j = c.f ∨ ov.id? = some j) → j < h0.next) →
 ∃ h' S', Ft c S' h' ov ∧ FF c h0 ov h' ov ∧ match yr c.text cl many f acc S.at_ with
   |some (L,p)=>S'={S with at_:=p}∧L.length=many∧∃e' v',Lp AP.A [0,1,2,7] AP.f53L1 [(0,.aG c.f 0),(1,xS cl),(2,I many),(7,v)] h=some (.exit 0,e',h')∧look e' 7=v'∧oU h' v' (ints L)∧∀j,v'.id?=some j→h0.next≤j
   |none=>S'.e=700∧((∃e' v',Lp AP.A [0,1,2,7] AP.f53L1 [(0,.aG c.f 0),(1,xS cl),(2,I many),(7,v)] h=some (.exit 0,e',h')∧look e' 7=v')∨∃e',Lp AP.A [0,1,2,7] AP.f53L1 [(0,.aG c.f 0),(1,xS cl),(2,I many),(7,v)] h=some (.ret,e',h')∧look e' 6=.aS)
 |0,acc,S,h,ov,v,st,he,hk,fr,oa,hal,hid,hlo=>by have:=st.zl;omega
 | f + 1, acc, S, h, ov, v, st, he, hk, fr, oa, hal, hid, hlo => by
   by_cases hlt:acc.length<many
   · rw [yr, if_pos hlt]
     have gf:=st.gf
     rw[he]at gf
     have ln:=oa.len
     rw[rk]at ln
     have c1:(acc.length:Int)<many:=by omega
     obtain⟨h1,S1,y,s1,s2,s3,s4⟩:=DT cl hcl st he
     have gf1:=s2.gf
     cases hz:Ar c.text cl 15 1 0 S.at_ with
     | none =>
       rw[hz]at s4
       obtain⟨s4,s5⟩:=s4
       have ce:(S1.e !=0)=true:=vY (by rw[s4];decide)
       refine⟨h1,S1,s2,fr.trans s3,s4,.inr ⟨[(6,.aS)],vF ?_,rfl⟩⟩
       simp only[I]at *
       simp only[AP.f53L1,go_sem,ln,aaW c1,gf,s1,gf1,ce]
     | some yp =>
       obtain⟨z,p1⟩:=yp
       rw[hz]at s4
       obtain⟨s4,s5⟩:=s4
       subst s5 s4
       have zb:=Am hz
       dsimp only at gf1 ⊢
       rw[he]at gf1
       have fr1:=fr.trans s3
       have hneq:∀i,v.id?=some i→i≠c.f∧ov.id?≠some i:=fun i hi=>by
        have:=hid i hi
        exact⟨fun e=>by have:=hlo i (.inl e);omega,fun e=>by have:=hlo i (.inr e);omega⟩
       have oa1:oU h1 v (ints acc):=oa.mono s3.fl fun i hi=>s3.Ek i (oa.lt hi) (hneq i hi).1 (hneq i hi).2
       have ln1:=oa1.len
       rw[rk]at ln1
       have fin:∀(n:Int) (times:Nat) (h2:H) (S2:SS),times≤1000→Ft c S2 h2 ov→FF c h0 ov h2 ov→oU h2 v (ints acc)→(S2.e=0∨S2.e=700)→(∀code h3 v3,code=(aI.seq (.seq (.qz [⟨(some 59),.mv (.t 0),none⟩,⟨(some 60),.pP (.t 59),none⟩,⟨(some 61),.pF 4 (.t 60),none⟩,⟨(some 62),.load false 1 (.t 61),none⟩,⟨(some 63),.bin .eql (.t 62) (.c (.int .i64 0)),none⟩,⟨(some 64),.mv (.t 63),none⟩,⟨(some 65),.mv (.t 7),(some (64,true))⟩,⟨(some 66),.len false (.t 65),(some (64,true))⟩,⟨(some 67),.mv (.t 9),(some (64,true))⟩,⟨(some 68),.bin .add (.t 66) (.t 67),(some (64,true))⟩,⟨(some 69),.mv (.t 2),(some (64,true))⟩,⟨(some 70),.bin .gtr (.t 68) (.t 69),(some (64,true))⟩,⟨(some 71),.pick (.t 64) (.t 70) (.c (.bool false)),none⟩] [0,1,2,7,9,10,71]) (.cond (.t 71) (.qz [⟨(some 72),.mv (.t 0),none⟩,⟨(some 73),.call (.c (.fn 25 [] [])) [(.t 72)],none⟩] [0,1,2,7,9,10]) (.skip) [0,1,2,7,9,10])) (.seq (.qz [⟨(some 11),.mv (.c (.int .i64 0)),none⟩] [0,1,2,7,9,10,11]) (.block 3 (.loop [0,1,2,7,9,10,11] AP.f53L0) [0,1,2,7])))→aO (aU AP.A) bH code [(0,.aG c.f 0),(1,xS cl),(2,I many),(7,v),(9,I times),(10,I n)] h2=some (.normal,[(0,.aG c.f 0),(1,xS cl),(2,I many),(7,v3)],h3)→
        aO (aU AP.A) bH AP.f53L1 (ay [(0,.aG c.f 0),(1,xS cl),(2,I many),(7,v)] [0,1,2,7]) h=some (.normal,[(0,.aG c.f 0),(1,xS cl),(2,I many),(7,v3)],h3))→
        (match yG c.text y acc p1 with|some q=>S2={S with at_:=q.2.2}∧n=q.1∧times=q.2.1∧p1≤q.2.2|none=>S2.e=700)→
        ∃ h' S', Ft c S' h' ov ∧ FF c h0 ov h' ov ∧ match (match yG c.text y acc p1 with | none => none | some (n, times, p2) => yr c.text cl many f (acc ++ List.replicate times n) p2) with
          |some (L,p)=>S'={S with at_:=p}∧L.length=many∧∃e' v',Lp AP.A [0,1,2,7] AP.f53L1 [(0,.aG c.f 0),(1,xS cl),(2,I many),(7,v)] h=some (.exit 0,e',h')∧look e' 7=v'∧oU h' v' (ints L)∧∀j,v'.id?=some j→h0.next≤j
          |none=>S'.e=700∧((∃e' v',Lp AP.A [0,1,2,7] AP.f53L1 [(0,.aG c.f 0),(1,xS cl),(2,I many),(7,v)] h=some (.exit 0,e',h')∧look e' 7=v')∨∃e',Lp AP.A [0,1,2,7] AP.f53L1 [(0,.aG c.f 0),(1,xS cl),(2,I many),(7,v)] h=some (.ret,e',h')∧look e' 6=.aS):=by
        intro n times h2 S2 ht st2 fr2 o2 he2 hstep hag
        obtain⟨h3,S3,v3,t1,t2,t3,t4⟩:=Jp h0 cl many hm st2 fr2 o2 hlt hid hlo n times ht he2 _ rfl
        have step:=hstep _ h3 v3 rfl t1
        cases ha:yG c.text y acc p1 with
        | none =>
          rw[ha]at hag
          dsimp only at hag ⊢
          rcases t4 with ⟨t5,_⟩|⟨_,t6,t7,t8⟩
          · rw[hag]at t5;exact absurd t5 (by decide)
          · subst t7
            obtain⟨e',q1,q2⟩:=CN t2 (xS cl) many t8 (.inr ⟨hlt,by rw[t6];decide⟩)
            exact⟨h3,S3,t2,t3,t6,.inl ⟨e',v3,u9 step q1,q2⟩⟩
        | some q =>
          obtain⟨n2,t2',p2⟩:=q
          rw[ha]at hag
          obtain⟨g1,g2,g3,g4⟩:=hag
          dsimp only at g1 g2 g3 g4 ⊢
          subst g1 g2 g3
          have hle2:=st2.zl
          dsimp only at hle2
          rcases t4 with ⟨t5,t6,t7,t8,t9⟩|⟨t5,t6,t7,t8⟩
          · subst t7
            obtain⟨h',S',r1,r2,r3⟩:=E3 h0 cl hcl many hm f (acc++List.replicate times n) _ h3 ov v3 t2 he (by dsimp only;omega) t3 t8 (by simp;omega) t9 hlo
            refine⟨h',S',r1,r2, ?_⟩
            dsimp only at r3
            cases hL:yr c.text cl many f (acc++List.replicate times n) p2 with
            | some q =>
              rw[hL]at r3
              obtain⟨r4,r5,e',v',r6,r7⟩:=r3
              exact⟨r4,r5,e',v',u9 step r6,r7⟩
            | none =>
              rw[hL]at r3
              obtain⟨r4,r5⟩:=r3
              refine⟨r4, ?_⟩
              rcases r5 with ⟨e',v',r6,r7⟩|⟨e',r6,r7⟩
              · exact .inl ⟨e',v',u9 step r6,r7⟩
              · exact .inr ⟨e',u9 step r6,r7⟩
          · have hgt:many<acc.length+times:=by
             rcases t5 with q|q
             · exact absurd he q
             · exact q
            have hnone:yr c.text cl many f (acc++List.replicate times n) p2=none:=by
             obtain⟨f',rfl⟩:∃f',f=f'+1:=⟨f-1,by omega⟩
             rw[yr,if_neg (by simp;omega),if_pos (by simp;omega)]
            rw[hnone]
            dsimp only
            subst t7
            obtain⟨e',q1,q2⟩:=CN t2 (xS cl) many t8 (.inr ⟨hlt,by rw[t6];decide⟩)
            exact⟨h3,S3,t2,t3,t6,.inl ⟨e',v3,u9 step q1,q2⟩⟩
       have ne0:((0:Int) !=0)=false:=rfl
       by_cases h16:y=16
       · have d16:=vW h16
         by_cases hn:acc=[]
         · obtain⟨h2,f1,f2,f3⟩:=Ap s2
           have hag:yG c.text y acc p1=none:=by unfold yG;rw[if_pos h16,if_pos hn]
           rw[hag]
           have hz0:((acc.length:Int)==0)=true:=by rw[hn];rfl
           refine⟨h2,_,f2,fr1.trans f3,by simp [xM,he],.inr ⟨[(6,.aS)],vF ?_,rfl⟩⟩
           simp only[I]at *
           simp only[AP.f53L1,go_sem,ln,aaW c1,gf,s1,gf1,ne0,d16,ln1,hz0,f1]
         · have hpos:0<acc.length:=abo.2 hn
           have hz0:((acc.length:Int)==0)=false:=vV (by omega)
           have w2:IntKind.wrap .i64 ((acc.length:Int)-1)=((acc.length-1:Nat):Int):=by
            rw[show(acc.length:Int)-1=((acc.length-1:Nat):Int)by omega];exact xy (by omega)
           have hel:=Cv (l:=acc) (i:=acc.length-1) (by omega)
           obtain⟨id,i1,i2,i3⟩:=oa1.elem hel
           obtain⟨h2,k1,k2,k3⟩:=zV s2 2 2 rfl (by omega)
           have hgl:(yb c 2 {S with at_:=p1}).1<4:=by
            unfold yb;split
            · simpa using yt c.text p1 2
            · simp
           have w3:IntKind.wrap .i64 (3+((yb c 2 {S with at_:=p1}).1:Int))=((3+(yb c 2 {S with at_:=p1}).1:Nat):Int):=xy (n:=3+_) (by omega)
           have o2:oU h2 v (ints acc):=oa1.mono k3.fl fun i hi=>k3.Ek i (oa1.lt hi) (hneq i hi).1 (hneq i hi).2
           refine fin (acc.getD (acc.length-1) 0) (3+(yb c 2 {S with at_:=p1}).1) h2 _ (by omega) k2 (fr1.trans k3) o2 (DU c 2 _ (.inl he)) ?_ ?_
           · intro code h3 v3 hc hev
             clear fin i1
             generalize (yb c 2 {S with at_:=p1}).1=G at *
             unfold AP.f53L1
             rw[hc]at hev
             simp only[I]at *
             simp only[ua,oW,rI,uH,go_sem,ln,aaW c1,gf,s1,gf1,ne0,d16,ln1,hz0,w2,i2,i3,hel,k1,w3]
             simp only[ua,oW,rI,uH,go_sem]at hev
             simp only[hev,go_sem]
           · by_cases hp:p1+2≤8* c.text.size
             · have hag:yG c.text y acc p1=some (acc.getD (acc.length-1) 0,3+xJ c.text p1 2,p1+2):=by unfold yG;rw[if_pos h16,if_neg hn,if_pos hp]
               rw[hag]
               have eg:yb c 2 {S with at_:=p1}=(xJ c.text p1 2,{S with at_:=p1+2}):=by rw[yb,if_pos hp]
               rw[eg]
               exact⟨rfl,rfl,rfl,by show p1≤p1+2;omega⟩
             · have hag:yG c.text y acc p1=none:=by unfold yG;rw[if_pos h16,if_neg hn,if_neg hp]
               rw[hag]
               have eg:yb c 2 {S with at_:=p1}=(0,{S with at_:=p1,e:=700}):=by rw[yb,if_neg hp,xM,if_pos he]
               rw[eg]
       · have d16:=vV h16
         by_cases h17:y=17
         · have d17:=vW h17
           obtain⟨h2,k1,k2,k3⟩:=zV s2 3 3 rfl (by omega)
           have hgl:(yb c 3 {S with at_:=p1}).1<8:=by
            unfold yb;split
            · simpa using yt c.text p1 3
            · simp
           have w3:IntKind.wrap .i64 (3+((yb c 3 {S with at_:=p1}).1:Int))=((3+(yb c 3 {S with at_:=p1}).1:Nat):Int):=xy (n:=3+_) (by omega)
           have o2:oU h2 v (ints acc):=oa1.mono k3.fl fun i hi=>k3.Ek i (oa1.lt hi) (hneq i hi).1 (hneq i hi).2
           refine fin 0 (3+(yb c 3 {S with at_:=p1}).1) h2 _ (by omega) k2 (fr1.trans k3) o2 (DU c 3 _ (.inl he)) ?_ ?_
           · intro code h3 v3 hc hev
             clear fin
             generalize (yb c 3 {S with at_:=p1}).1=G at *
             unfold AP.f53L1
             rw[hc]at hev
             simp only[I]at *
             simp only[ua,oW,rI,uH,go_sem,ln,aaW c1,gf,s1,gf1,ne0,d16,d17,k1,w3]
             simp only[ua,oW,rI,uH,go_sem]at hev
             simp only[hev,go_sem]
           · by_cases hp:p1+3≤8* c.text.size
             · have hag:yG c.text y acc p1=some (0,3+xJ c.text p1 3,p1+3):=by unfold yG;rw[if_neg h16,if_pos h17,if_pos hp]
               rw[hag]
               have eg:yb c 3 {S with at_:=p1}=(xJ c.text p1 3,{S with at_:=p1+3}):=by rw[yb,if_pos hp]
               rw[eg]
               exact⟨rfl,rfl,rfl,by show p1≤p1+3;omega⟩
             · have hag:yG c.text y acc p1=none:=by unfold yG;rw[if_neg h16,if_pos h17,if_neg hp]
               rw[hag]
               have eg:yb c 3 {S with at_:=p1}=(0,{S with at_:=p1,e:=700}):=by rw[yb,if_neg hp,xM,if_pos he]
               rw[eg]
         · have d17:=vV h17
           by_cases h18:y=18
           · have d18:=vW h18
             obtain⟨h2,k1,k2,k3⟩:=zV s2 7 7 rfl (by omega)
             have hgl:(yb c 7 {S with at_:=p1}).1<128:=by
              unfold yb;split
              · simpa using yt c.text p1 7
              · simp
             have w3:IntKind.wrap .i64 (11+((yb c 7 {S with at_:=p1}).1:Int))=((11+(yb c 7 {S with at_:=p1}).1:Nat):Int):=xy (n:=11+_) (by omega)
             have o2:oU h2 v (ints acc):=oa1.mono k3.fl fun i hi=>k3.Ek i (oa1.lt hi) (hneq i hi).1 (hneq i hi).2
             refine fin 0 (11+(yb c 7 {S with at_:=p1}).1) h2 _ (by omega) k2 (fr1.trans k3) o2 (DU c 7 _ (.inl he)) ?_ ?_
             · intro code h3 v3 hc hev
               clear fin
               generalize (yb c 7 {S with at_:=p1}).1=G at *
               unfold AP.f53L1
               rw[hc]at hev
               simp only[I]at *
               simp only[ua,oW,rI,uH,go_sem,ln,aaW c1,gf,s1,gf1,ne0,d16,d17,d18,k1,w3]
               simp only[ua,oW,rI,uH,go_sem]at hev
               simp only[hev,go_sem]
             · by_cases hp:p1+7≤8* c.text.size
               · have hag:yG c.text y acc p1=some (0,11+xJ c.text p1 7,p1+7):=by unfold yG;rw[if_neg h16,if_neg h17,if_pos h18,if_pos hp]
                 rw[hag]
                 have eg:yb c 7 {S with at_:=p1}=(xJ c.text p1 7,{S with at_:=p1+7}):=by rw[yb,if_pos hp]
                 rw[eg]
                 exact⟨rfl,rfl,rfl,by show p1≤p1+7;omega⟩
               · have hag:yG c.text y acc p1=none:=by unfold yG;rw[if_neg h16,if_neg h17,if_pos h18,if_neg hp]
                 rw[hag]
                 have eg:yb c 7 {S with at_:=p1}=(0,{S with at_:=p1,e:=700}):=by rw[yb,if_neg hp,xM,if_pos he]
                 rw[eg]
           · have d18:=vV h18
             have hag:yG c.text y acc p1=some (y,1,p1):=by unfold yG;rw[if_neg h16,if_neg h17,if_neg h18]
             refine fin y 1 h1 _ (by omega) s2 fr1 oa1 (.inl he) ?_ (by rw[hag];exact⟨rfl,rfl,rfl,wU _⟩)
             intro code h3 v3 hc hev
             clear fin hag
             unfold AP.f53L1
             rw[hc]at hev
             have hev':aO (aU AP.A) bH _ [(0,.aG c.f 0),(1,xS cl),(2,I many),(7,v),(9,I 1),(10,I y)] h1=_:=hev
             clear hev
             simp only[I]at *
             simp only[ua,oW,rI,uH,go_sem,ln,aaW c1,gf,s1,gf1,ne0,d16,d17,d18]
             simp only[ua,oW,rI,uH,go_sem,ln,aaW c1,gf,s1,gf1,ne0,d16,d17,d18]at hev'
             simp only[hev',go_sem]
   · have heq:acc.length=many:=by omega
     obtain⟨e',q1,q2⟩:=CN st (xS cl) many oa (.inl (by omega))
     refine⟨h,S,st,fr, ?_⟩
     rw[yr,if_neg hlt,if_neg (by omega)]
     exact⟨rfl,heq,e',v,q1,q2,oa,hid⟩
def HC (c:FC):SC:=⟨0,0,c.text,c.most⟩
theorem Oz (c:FC) (n:Nat) (S:SS):yb c n S=xK (HC c) n S:=(Oy (HC c) c rfl n S).symm
theorem Gi {c : FC} (a : Nat) (many : Nat) (hmany : many ≤ 19) (m2 m3 : AV) : ∀ (q p o : List Int) (S : SS) (h : H) (ov : AV), yd.take many = p ++ q → Ft c S h ov → ov.id? ≠ some a → a ≠ c.f → h.get a = some (ints o) → o.length = 19 → h.floor ≤ a →
 ∃ e' h', Lp AP.A [0, 2, 3, 4, 5, 6, 7] AP.f24L0 [(0, .aG c.f 0), (2, m2), (3, m3), (4, I many), (5, .aH a 0 19 1), (6, xU yd), (7, I p.length)] h = some (.exit 0, e', h') ∧ look e' 0 = .aG c.f 0 ∧ look e' 2 = m2 ∧ look e' 3 = m3 ∧ look e' 5 = .aH a 0 19 1 ∧
   Ft c (AH (HC c) q o S).2 h' ov∧h'.get a=some (ints (AH (HC c) q o S).1)∧h'.floor=h.floor∧h.next≤h'.next∧∀i,i<h.next→i≠c.f→ov.id?≠some i→i≠a→h'.get i=h.get i
 | [], p, o, S, h, ov, hp, st, hoa, hac, hg, ho, hf => by
   have hlen:p.length=many:=by
    have:=abt List.length hp
    rw[abC,aa2]at this
    have h2:yd.length=19:=rfl
    omega
   refine⟨[(0,.aG c.f 0),(2,m2),(3,m3),(4,I many),(5,.aH a 0 19 1),(6,xU yd),(7,I p.length),(37,.bool false)],h,u6 ?_,rfl,rfl,rfl,rfl,st,hg,rfl,wU _,fun _ _ _ _ _=>rfl⟩
   have c1:¬(p.length:Int)<(many:Int):=by omega
   simp only[I]at *
   simp only[AP.f24L0,go_sem,aaU c1]
 | s :: q, p, o, S, h, ov, hp, st, hoa, hac, hg, ho, hf => by
   have h2l:yd.length=19:=rfl
   have hlen:p.length+(q.length+1)=many:=by
    have:=abt List.length hp
    rw[abC,xu,aaV]at this
    omega
   have c1:(p.length:Int)<(many:Int):=by omega
   have hsm:s∈yd:=List.mem_of_mem_take (i:=many) (by rw[hp];simp)
   have hs:=GD s hsm
   obtain⟨sn,hsn⟩:∃n:Nat,s=n:=abd hs.1
   subst hsn
   have hv0:yd[p.length]?=some (sn:Int):=by
    have:(yd.take many)[p.length]?=some (sn:Int):=by rw[hp];simp
    rw[xr]at this
    split at this
    · exact this
    · cases this
   have hv:(ints yd)[p.length]?=some (I sn):=uM hv0
   have ia:gZ 1 (xU yd) (I p.length)=some (.aN (ints yd) p.length):=by
    have:=lJ (show p.length<yd.length by omega)
    simp only[gZ,xU,if_true,this,wP,wY,abu]
   obtain⟨h1,k1,k2,k3⟩:=zV st 3 3 rfl (by omega)
   rw[Oz]at k1 k2
   have hal:a<h.next:=h.lt _ _ hg
   have hg1:h1.get a=some (ints o):=by rw[k3.Ek a hal hac hoa];exact hg
   have a1:gZ 1 (.aH a 0 19 1) (I sn)=some (.aG a sn):=by simp [gZ,lJ (show sn<19 by omega)]
   have hset:(ints o).set sn (I ((xK (HC c) 3 S).1:Nat))=ints (o.set sn ((xK (HC c) 3 S).1:Nat)):=by simp [ints,List.map_set]
   have hst:vR h1 a sn 1 [I ((xK (HC c) 3 S).1:Nat)] (some (ints o))=some (h1.set a (ints (o.set sn ((xK (HC c) 3 S).1:Nat)))):=by
    rw[wx (by rw[k3.fl];exact hf) (by rw[rk];omega) rfl,hset]
   have w2:IntKind.wrap .i64 ((p.length:Int)+1)=(((p++[(sn:Int)]).length:Nat):Int):=by
    rw[xu];exact xy (n:=p.length+1) (by omega)
   have step:aO (aU AP.A) bH AP.f24L0 (ay [(0,.aG c.f 0),(2,m2),(3,m3),(4,I many),(5,.aH a 0 19 1),(6,xU yd),(7,I p.length)] [0,2,3,4,5,6,7]) h=some (.normal,[(0,.aG c.f 0),(2,m2),(3,m3),(4,I many),(5,.aH a 0 19 1),(6,xU yd),(7,I (p++[(sn:Int)]).length)],h1.set a (ints (o.set sn ((xK (HC c) 3 S).1:Nat)))):=by
    clear hset
    generalize ints (o.set sn ((xK (HC c) 3 S).1:Nat))=W at *
    generalize (p++[(sn:Int)]).length=B at *
    generalize (xK (HC c) 3 S).1=G at *
    generalize ints o=OO at *
    generalize xU yd=RO at *
    unfold AP.f24L0
    refine wk (e1:=[(0,.aG c.f 0),(2,m2),(3,m3),(4,I many),(5,.aH a 0 19 1),(6,RO),(7,I p.length)]) (h1:=h) ?_ ?_
    · simp only[I]at *
      simp only[go_sem,aaW c1]
    refine wk (e1:=[(0,.aG c.f 0),(2,m2),(3,m3),(4,I many),(5,.aH a 0 19 1),(6,RO),(7,I p.length)]) (h1:=h1.set a W) ?_ ?_
    · rw[oW,GU (e':=[(47,.aG a sn),(46,I G),(45,.aG c.f 0),(44,I sn),(43,.aN (ints yd) p.length),(42,I p.length),(41,RO),(40,.aH a 0 19 1),(0,.aG c.f 0),(2,m2),(3,m3),(4,I many),(5,.aH a 0 19 1),(6,RO),(7,I p.length)]) (h':=h1.set a W) (gs:=[h,h1,h1.set a W])]
      · simp only[go_sem]
      · simp only[I]at *
        simp only[Bz,DZ,DW,D4,D3,cq.aR,go_sem,ia,hv,k1,a1,hg1,hst]
      · refine BC (fun k hk=> ?_) rfl
        obtain rfl:k=1:=by simpa using hk
        refine BB (o:=⟨some 44,.load false 1 (.t 43),none⟩) (g:=h1) (h':=h1) (d:=44) (u:=I sn) rfl rfl rfl rfl ?_ ?_
        · simp only[ai,go_sem,hv]
        · simp only[go_sem,I,Ep]
    · simp only[I]at *
      simp only[go_sem,w2]
   have st2:Ft c (xK (HC c) 3 S).2 (h1.set a (ints (o.set sn ((xK (HC c) 3 S).1:Nat)))) ov:=k2.yR (by simp) (by simp) fun i hi=>by
    rw[H.dY,if_neg]
    rintro rfl
    rcases hi with hi|hi
    · exact hac hi
    · exact hoa hi
   obtain⟨e',h',q1,q2,q3,q4,q5,q6,q7,q8,q9,q10⟩:=Gi a many hmany m2 m3 q (p++[(sn:Int)]) (o.set sn ((xK (HC c) 3 S).1:Nat)) _ _ ov (by rw[hp];simp) st2 hoa hac (by rw[H.dY,if_pos rfl,hg1];rfl) (by simpa using ho) (by simp [k3.fl];exact hf)
   refine⟨e',h',u9 step q1,q2,q3,q4,q5, ?_, ?_,by rw[q8];simp [k3.fl],by have:=k3.nx;simp at q9;omega,fun i i1 i2 i4 i5=> ?_⟩
   · rw[AH];exact q6
   · rw[AH];exact q7
   · rw[q10 i (by have:=k3.nx;simp;omega) i2 i4 i5,H.dY,if_neg i5,k3.Ek i i1 i2 i4]
theorem Jo {c:FC} {S:SS} {h:H} {ov:AV} (cl:List Int) (hcl:cl.length<1000) (st:Ft c S h ov) (he:S.e=0) (many:Nat) (hm:many≤400):
 ∃ h' S' v, aU AP.A 53 [.aG c.f 0, xS cl, I many] h = some (v, h') ∧ Ft c S' h' ov ∧ FF c h ov h' ov ∧ match yr c.text cl many (8 * c.text.size + 1) [] S.at_ with
   |some (L,p)=>S'={S with at_:=p}∧L.length=many∧oU h' v (ints L)∧∀j,v.id?=some j→h.next≤j
   |none=>S'.e=700:=by
 obtain⟨h',S',q1,q2,q3⟩:=E3 h cl hcl many hm (8* c.text.size+1) [] S h ov .aS st he (by omega) (FF.refl _ _ _) (.inl ⟨rfl,rfl⟩) (by simp) (fun j q=>by cases q) (fun j hj=>st.lt hj)
 have close:∀e' v,Lp AP.A [0,1,2,7] AP.f53L1 [(0,.aG c.f 0),(1,xS cl),(2,I many),(7,.aS)] h=some (.exit 0,e',h')→look e' 7=v→aU AP.A 53 [.aG c.f 0,xS cl,I many] h=some (v,h'):=by
  intro e' v r1 r2
  refine vv (fn:=AP.f53) (e:=[(6,v)]) (vs:=[v]) rfl rfl rfl ?_ rfl
  simp only[I]at *
  simp only[AP.f53,go_sem,uo,r1,r2]
 cases hL:yr c.text cl many (8* c.text.size+1) [] S.at_ with
 | some q =>
   rw[hL]at q3
   obtain⟨r1,r2,e',v',r3,r4,r5,r6⟩:=q3
   exact⟨h',S',v',close e' v' r3 r4,q1,q2,r1,r2,r5,r6⟩
 | none =>
   rw[hL]at q3
   obtain⟨r1,⟨e',v',r3,r4⟩|⟨e',r3,r4⟩⟩:=q3
   · exact⟨h',S',v',close e' v' r3 r4,q1,q2,r1⟩
   · refine⟨h',S',.aS, ?_,q1,q2,r1⟩
     refine vv (fn:=AP.f53) (e:=e') (vs:=[.aS]) rfl rfl rfl ?_ (by simp only[AP.f53,c9,oL,r4];rfl)
     simp only[I]at *
     simp only[AP.f53,go_sem,uo,r3]
theorem Ji (t:ByteArray) (most:Int) (out:List Nat) {p:Nat} (hp:¬p+14≤8* t.size):FZ t most p out=.error 700:=by
 unfold FZ
 split
 · dsimp only
   split
   · rfl
   · have:∀m,AK t m (p+10)=none:=fun m=>by rw[AK,if_neg (by omega)]
     rw[this]
 · rfl
theorem Jl {c : FC} {S : SS} {h : H} {ov : AV} (st : Ft c S h ov) (he : S.e = 0) :
 ∃h' ov' S',aU AP.A 24 [.aG c.f 0] h=some (.bW [],h')∧Ft c S' h' ov'∧FF c h ov h' ov'∧Fin (FZ c.text c.most S.at_ S.out) S':=by
 obtain⟨h1,a1,a2,a3⟩:=zV st 5 5 rfl (by omega)
 obtain⟨h2,b1,b2,b3⟩:=zV a2 5 5 rfl (by omega)
 obtain⟨h3,d1,d2,d3⟩:=zV b2 4 4 rfl (by omega)
 obtain⟨A,hA⟩:∃n,n=(yb c 5 S).1:=⟨_,rfl⟩
 obtain⟨S1,hS1⟩:∃n,n=(yb c 5 S).2:=⟨_,rfl⟩
 rw[←hA]at a1;rw[←hS1]at a2 b1 b2 d1 d2
 obtain⟨B,hB⟩:∃n,n=(yb c 5 S1).1:=⟨_,rfl⟩
 obtain⟨S2,hS2⟩:∃n,n=(yb c 5 S1).2:=⟨_,rfl⟩
 rw[←hB]at b1;rw[←hS2]at b2 d1 d2
 obtain⟨C,hC⟩:∃n,n=(yb c 4 S2).1:=⟨_,rfl⟩
 obtain⟨S3,hS3⟩:∃n,n=(yb c 4 S2).2:=⟨_,rfl⟩
 rw[←hC]at d1;rw[←hS3]at d2
 have g5:∀S,(yb c 5 S).1<32:=fun S=>by
  unfold yb;split
  · simpa using yt c.text S.at_ 5
  · simp
 have hA32:A<32:=hA ▸ g5 S
 have hB32:B<32:=hB ▸ g5 S1
 have hC16:C<16:=by
  rw[hC];unfold yb;split
  · simpa using yt c.text S2.at_ 4
  · simp
 have w1:IntKind.wrap .i64 (257+(A:Int))=((A+257:Nat):Int):=by rw[show 257+(A:Int)=((A+257:Nat):Int)by omega];exact xy (by omega)
 have w2:IntKind.wrap .i64 (1+(B:Int))=((B+1:Nat):Int):=by rw[show 1+(B:Int)=((B+1:Nat):Int)by omega];exact xy (by omega)
 have w3:IntKind.wrap .i64 (4+(C:Int))=((C+4:Nat):Int):=by rw[show 4+(C:Int)=((C+4:Nat):Int)by omega];exact xy (by omega)
 have gf3:=d2.gf
 have he3:S3.e=0∨S3.e=700:=by rw[hS3];exact DU c 4 _ (by rw[hS2];exact DU c 5 _ (by rw[hS1];exact DU c 5 S (.inl he)))
 have fr3:=(a3.trans b3).trans d3
 have bad:(S3.e≠0∨286<A+257∨30<B+1)→∃h' ov' S',aU AP.A 24 [.aG c.f 0] h=some (.bW [],h')∧Ft c S' h' ov'∧FF c h ov h' ov'∧S'.e=700∧(700:Int)≠0:=by
  intro hb
  obtain⟨h4,f1,f2,f3⟩:=Ap d2
  refine⟨h4,ov,xM 700 S3, ?_,f2,fr3.trans f3,by rcases he3 with q|q<;>simp [xM,q],by decide⟩
  refine vv (fn:=AP.f24) (e:=[]) (vs:=[]) rfl rfl rfl ?_ rfl
  by_cases c1:S3.e=0
  · have c1':=vX c1
    by_cases c2:286<A+257
    · have c2':(286:Int)<((A+257:Nat):Int):=by omega
      simp only[I]at *
      simp only[AP.f24,go_sem,a1,b1,d1,w1,w2,w3,gf3,c1',aaW c2',f1]
    · have c2':¬(286:Int)<((A+257:Nat):Int):=by omega
      have c3':(30:Int)<((B+1:Nat):Int):=by
       rcases hb with q|q|q
       · exact absurd c1 q
       · exact absurd q c2
       · omega
      simp only[I]at *
      simp only[AP.f24,go_sem,a1,b1,d1,w1,w2,w3,gf3,c1',aaU c2',aaW c3',f1]
  · have c1':=vY c1
    simp only[I]at *
    simp only[AP.f24,go_sem,a1,b1,d1,w1,w2,w3,gf3,c1',f1]
 by_cases hp:S.at_+14≤8* c.text.size
 · unfold FZ
   have e1:yb c 5 S=(xJ c.text S.at_ 5,{S with at_:=S.at_+5}):=by rw[yb,if_pos (by omega)]
   rw[e1]at hA hS1;dsimp only at hA hS1
   have e2:yb c 5 {S with at_:=S.at_+5}=(xJ c.text (S.at_+5) 5,{S with at_:=S.at_+5+5}):=by rw[yb,if_pos (by show S.at_+5+5≤_;omega)]
   rw[hS1,e2]at hB hS2;dsimp only at hB hS2
   have e3:yb c 4 {S with at_:=S.at_+5+5}=(xJ c.text (S.at_+5+5) 4,{S with at_:=S.at_+5+5+4}):=by rw[yb,if_pos (by show S.at_+5+5+4≤_;omega)]
   rw[hS2,e3]at hC hS3;dsimp only at hC hS3
   rw[if_pos (show S.at_+10≤8* c.text.size by omega)]
   dsimp only
   rw[←hA,←hB]
   by_cases hbig:286<A+257∨30<B+1
   · rw[if_pos hbig];exact bad (.inr hbig)
   rw[if_neg hbig]
   have he30:S3.e=0:=by rw[hS3];exact he
   have hat3:S3.at_=S.at_+14:=by rw[hS3]
   have c1':(S3.e !=0)=false:=vX he30
   have c2':¬(286:Int)<((A+257:Nat):Int):=by omega
   have c3':¬(30:Int)<((B+1:Nat):Int):=by omega
   have w4:IntKind.wrap .i64 (((A+257:Nat):Int)+((B+1:Nat):Int))=((A+257+(B+1):Nat):Int):=by
    rw[show((A+257:Nat):Int)+((B+1:Nat):Int)=((A+257+(B+1):Nat):Int)by omega];exact xy (by omega)
   obtain⟨a,ha⟩:∃a,a=h3.next:=⟨_,rfl⟩
   obtain⟨g0,hg0⟩:∃g,g=h3.alloc (ints (List.replicate 19 0)):=⟨_,rfl⟩
   have al:=d2.alloc (ints (List.replicate 19 0))
   rw[←hg0]at al
   have hga:g0.get a=some (ints (List.replicate 19 0)):=by rw[hg0,H.aZ,if_pos ha]
   have oc:=Nd g0
   have bt:∀e:Env,bg e (.jI 1 8 [.int .i64 0] (.c (.int .i64 19)) (.c (.int .i64 19)))=some (ints (List.replicate 19 0),fun i=>.aH i 0 19 1):=fun _=>rfl
   have hac:a≠c.f:=fun e=>by have:=d2.lt (.inl e);omega
   have hoa:ov.id?≠some a:=fun e=>by have:=d2.lt (.inr e);omega
   obtain⟨e4,h4,l1,l2,l3,l4,l5,l6,l7,l8,l9,l10⟩:=Gi (c:=c) a (C+4) (by omega) (I (A+257:Nat)) (I (B+1:Nat)) (yd.take (C+4)) [] (List.replicate 19 0) S3 g0 ov rfl al.1 hoa hac hga (by simp) (by rw[hg0,ha];simp;exact d2.nx)
   have l1':Lp AP.A [0,2,3,4,5,6,7] AP.f24L0 [(0,.aG c.f 0),(2,I (A+257:Nat)),(3,I (B+1:Nat)),(4,I (C+4:Nat)),(5,.aH a 0 19 1),(6,xU yd),(7,I 0)] g0=some (.exit 0,e4,h4):=l1
   clear l1
   have hn0:g0.next=h3.next+1:=by rw[hg0];simp
   have fr4:FF c h ov h4 ov:=by
    refine⟨by rw[l8,al.2.fl,fr3.fl], ?_,fun id i1 i2 i4=> ?_,fun i hi=>.inl hi⟩
    · have:=fr3.nx;omega
    · have:=fr3.nx
      rw[l10 id (by omega) i2 i4 (by omega),al.2.Ek id (by omega) i2 i4,fr3.Ek id i1 i2 i4]
   obtain⟨cl,hcl⟩:∃cl,cl=(AH (HC c) (yd.take (C+4)) (List.replicate 19 0) S3).1:=⟨_,rfl⟩
   obtain⟨S4,hS4⟩:∃cl,cl=(AH (HC c) (yd.take (C+4)) (List.replicate 19 0) S3).2:=⟨_,rfl⟩
   rw[←hS4]at l6;rw[←hcl]at l7
   have hcll:cl.length=19:=by rw[hcl,Fw];simp
   have hol:(yd.take (C+4)).length=C+4:=by rw[abC];show min (C+4) 19=C+4;omega
   have iO:Rd h4 (.aH a 0 19 1) (ints cl):=by
    refine⟨?_,by intro s e;cases e⟩
    simp [aV,l7,hcll,xj]
   have ck:=ES h4 (.aH a 0 19 1) cl (by omega) iO
   have bk:=B6 h4 (.aH a 0 19 1) cl (by omega) iO
   have gf4:=l6.gf
   have he4:S4.e=0∨S4.e=700:=by rw[hS4];exact Nh _ _ _ _ (.inl he30)
   have bad2:(S4.e≠0∨yf cl≠0)→∃h' ov' S',aU AP.A 24 [.aG c.f 0] h=some (.bW [],h')∧Ft c S' h' ov'∧FF c h ov h' ov'∧S'.e=700∧(700:Int)≠0:=by
    intro hb
    obtain⟨h5,f1,f2,f3⟩:=Ap l6
    refine⟨h5,ov,xM 700 S4, ?_,f2,fr4.trans f3,by rcases he4 with q|q<;>simp [xM,q],by decide⟩
    refine vv (fn:=AP.f24) (e:=[]) (vs:=[]) rfl rfl rfl ?_ rfl
    by_cases q1:S4.e=0
    · have q1':=vX q1
      have q2':(yf cl !=0)=true:=vY (by rcases hb with q|q;exact absurd q1 q;exact q)
      simp only[I]at *
      simp only[AP.f24,go_sem,a1,b1,d1,w1,w2,w3,gf3,c1',aaU c2',aaU c3',bt,←hg0,←ha,oc,uo,l1',l2,l3,l4,l5,gf4,q1',ck,q2',f1]
    · have q1':=vY q1
      simp only[I]at *
      simp only[AP.f24,go_sem,a1,b1,d1,w1,w2,w3,gf3,c1',aaU c2',aaU c3',bt,←hg0,←ha,oc,uo,l1',l2,l3,l4,l5,gf4,q1',f1]
   have hlens:AK c.text (A+257+(B+1)) (S.at_+10)=if S.at_+14+3* (C+4)≤8* c.text.size then(if yf (F3 c.text (yd.take (C+4)) (S.at_+14) (List.replicate 19 0))=0 then yr c.text (F3 c.text (yd.take (C+4)) (S.at_+14) (List.replicate 19 0)) (A+257+(B+1)) (8* c.text.size+1) [] (S.at_+14+3* (C+4))else none)else none:=by
    have hC':xJ c.text (S.at_+10) 4=C:=hC.symm
    unfold AK
    rw[if_pos (show S.at_+10+4≤8* c.text.size by omega)]
    dsimp only
    rw[hC',show S.at_+10+4=S.at_+14 by omega]
   by_cases hp2:S.at_+14+3* (C+4)≤8* c.text.size
   · have ok := Hp (HC c) (yd.take (C + 4)) (List.replicate 19 0) S3 he30 (by rw [hol, hat3]; exact hp2)
     rw[ok]at hcl hS4
     dsimp only at hcl hS4
     rw[hol]at hS4
     rw[hat3]at hcl
     have hcl':cl=F3 c.text (yd.take (C+4)) (S.at_+14) (List.replicate 19 0):=hcl
     rw[if_pos hp2,←hcl']at hlens
     by_cases hck:yf cl=0
     · rw [if_pos hck] at hlens
       have he40:S4.e=0:=by rw[hS4];exact he30
       have hat4:S4.at_=S.at_+14+3* (C+4):=by rw[hS4];show S3.at_+3* (C+4)=_;rw[hat3]
       have q1':=vX he40
       have q2':=vX hck
       obtain⟨h5,S5,av,m1,m2,m3,m4⟩:=Jo cl (by omega) l6 he40 (A+257+(B+1)) (by omega)
       have gf5:=m2.gf
       rw[hat4]at m4
       rw[hlens]
       cases hL:yr c.text cl (A+257+(B+1)) (8* c.text.size+1) [] (S.at_+14+3* (C+4))with
       | none =>
         rw[hL]at m4
         have q3':(S5.e !=0)=true:=vY (by rw[m4];decide)
         refine⟨h5,ov,S5, ?_,m2,fr4.trans m3,m4,by decide⟩
         refine vv (fn:=AP.f24) (e:=[(0,.aG c.f 0),(2,I (A+257:Nat)),(8,av),(71,.bool true)]) (vs:=[]) rfl rfl rfl ?_ rfl
         simp only[I]at *
         simp only[AP.f24,go_sem,a1,b1,d1,w1,w2,w3,gf3,c1',aaU c2',aaU c3',bt,←hg0,←ha,oc,uo,l1',l2,l3,l4,l5,gf4,q1',ck,q2',bk,w4,m1,gf5,q3']
       | some q =>
         obtain⟨L,p2⟩:=q
         rw[hL]at m4
         obtain⟨m4,m5,m6,m7⟩:=m4
         have he5:S5.e=0:=by rw[m4];exact he40
         have q3':=vX he5
         have hrng:zY L:=Gs (t:=c.text) (many:=A+257+(B+1)) (p:=S.at_+10) (p2:=p2) (by rw[hlens,hL])
         dsimp only
         obtain⟨id,hav,hgid⟩:∃id,av=.aH id 0 (A+257+(B+1)) 1∧h5.get id=some (ints L):=by
          rcases m6 with ⟨_,q⟩|⟨id,q1,q2,_⟩
          · have:=abt List.length q;rw[rk,m5,aaX]at this;omega
          · exact⟨id,by rw[q1,rk,m5],q2⟩
         have hil:(ints L).length=A+257+(B+1):=by rw[rk,m5]
         have s1:=GW (h:=h5) (k:=A+257) hgid hil (wU _) (by omega)
         have s2:=Jd (h:=h5) (k:=A+257) hgid hil (by omega)
         rw[show A+257+(B+1)-(A+257)=B+1 by omega]at s2
         rw[←hav]at s1 s2
         obtain⟨la,hla⟩:∃x,x=L.take (A+257):=⟨_,rfl⟩
         obtain⟨lb,hlb⟩:∃x,x=L.drop (A+257):=⟨_,rfl⟩
         have hlal:la.length=A+257:=by rw[hla,abC];omega
         have hlbl:lb.length=B+1:=by rw[hlb,List.length_drop];omega
         have ra:Rd h5 (.aH id 0 (A+257) 1) (ints la):=by
          refine⟨?_,by intro s e;cases e⟩
          simp only[aV,if_true,hgid,wP]
          rw[if_pos (by rw[hil];omega),hla];simp [ints,List.map_take];omega
         have rb:Rd h5 (.aH id (A+257) (B+1) 1) (ints lb):=by
          refine⟨?_,by intro s e;cases e⟩
          simp only[aV,if_true,hgid,wP]
          rw[if_pos (by rw[hil];omega),hlb]
          have:(ints (L.drop (A+257))).length=B+1:=by rw[rk,←hlb,hlbl]
          rw[this,ints,ints,←List.map_drop,abu,xj (by rw[aa0,←hlb,hlbl];omega)]
         rw[←hla,←hlb]
         have cka:=ES h5 _ la (by omega) ra
         have ckb:=ES h5 _ lb (by omega) rb
         have hra:zY la:=fun y hy=>hrng y (List.mem_of_mem_take (hla ▸ hy))
         have hrb:zY lb:=fun y hy=>hrng y (List.mem_of_mem_drop (hlb ▸ hy))
         have sgb:=ND h5 _ lb (by omega) hrb rb
         have mka:=B6 h5 _ la (by omega) ra
         have mkb:=B6 h5 _ lb (by omega) rb
         have hel0:la.getD 256 0=L.getD 256 0:=by
          rw[hla,aaZ,aaZ,xr,if_pos (by omega)]
         have hel:=Cv (l:=L) (i:=256) (by omega)
         rw[←hel0]at hel
         obtain⟨id2,i1,i2,i3⟩:=m6.elem hel
         have i2':gZ 1 av (I 256)=some (.aG id2 256):=i2
         clear i2
         by_cases hbad:yf la≠0∨la.getD 256 0=0∨(yf lb≠0∧zh lb=false)
         · rw [if_pos hbad]
           obtain⟨h6,f1,f2,f3⟩:=Ap m2
           refine⟨h6,ov,xM 700 S5, ?_,f2,(fr4.trans m3).trans f3,by simp [xM,he5],by decide⟩
           refine vv (fn:=AP.f24) (e:=[]) (vs:=[]) rfl rfl rfl ?_ rfl
           by_cases x1:yf la=0
           · have x1':=vX x1
             by_cases x2:la.getD 256 0=0
             · have x2':=vW x2
               simp only[I]at *
               simp only[AP.f24,go_sem,a1,b1,d1,w1,w2,w3,gf3,c1',aaU c2',aaU c3',bt,←hg0,←ha,oc,uo,l1',l2,l3,l4,l5,gf4,q1',ck,q2',bk,w4,m1,gf5,q3',aaY,abc,s1,s2,cka,x1',i2',i3,hel,x2',f1]
             · have x2':=vV x2
               obtain⟨x3,x4⟩:yf lb≠0∧zh lb=false:=by
                rcases hbad with q|q|q
                · exact absurd x1 q
                · exact absurd q x2
                · exact q
               have x3':=vY x3
               rw[x4]at sgb
               simp only[I]at *
               simp only[AP.f24,go_sem,a1,b1,d1,w1,w2,w3,gf3,c1',aaU c2',aaU c3',bt,←hg0,←ha,oc,uo,l1',l2,l3,l4,l5,gf4,q1',ck,q2',bk,w4,m1,gf5,q3',aaY,abc,s1,s2,cka,x1',i2',i3,hel,x2',ckb,x3',sgb,f1]
           · have x1':=vY x1
             simp only[I]at *
             simp only[AP.f24,go_sem,a1,b1,d1,w1,w2,w3,gf3,c1',aaU c2',aaU c3',bt,←hg0,←ha,oc,uo,l1',l2,l3,l4,l5,gf4,q1',ck,q2',bk,w4,m1,gf5,q3',aaY,abc,s1,s2,cka,x1',f1]
         · rw [if_neg hbad]
           have x1:yf la=0:=Decidable.byContradiction fun q=>hbad (.inl q)
           have x2:la.getD 256 0≠0:=fun q=>hbad (.inr (.inl q))
           have x1':=vX x1
           have x2':=vV x2
           obtain⟨h6,ov6,S6,r1,r2,r3,r4⟩:=H0 la lb (by omega) (by omega) m2 he5
           have last:aO (aU AP.A) bH (.jG [0,1,2,3,4,5,6,7,8,9] [⟨(some 99),.mv (.t 0),none⟩,⟨(some 100),.mv (.t 8),none⟩,⟨(some 101),.mv (.t 2),none⟩,⟨(some 102),.sl 1 (.t 100) none (some (.t 101)) none,none⟩,⟨(some 103),.call (.c (.fn 21 [] [])) [(.t 102)],none⟩,⟨(some 104),.mv (.t 8),none⟩,⟨(some 105),.mv (.t 2),none⟩,⟨(some 106),.sl 1 (.t 104) (some (.t 105)) none none,none⟩,⟨(some 107),.call (.c (.fn 21 [] [])) [(.t 106)],none⟩,⟨(some 108),.call (.c (.fn 20 [] [])) [(.t 99),(.t 103),(.t 107)],none⟩] [(7,[0])] []) [(0,.aG c.f 0),(2,I (A+257:Nat)),(8,av)] h5=some (.normal,[],h6):=by
            rw[GU (e':=[(108,.bW []),(107,xS lb),(106,.aH id (A+257) (B+1) 1),(105,I (A+257:Nat)),(104,av),(103,xS la),(102,.aH id 0 (A+257) 1),(101,I (A+257:Nat)),(100,av),(99,.aG c.f 0),(0,.aG c.f 0),(2,I (A+257:Nat)),(8,av)]) (h':=h6) (gs:=[h5,h5,h5,h6])]
            · simp only[go_sem]
            · simp only[Bz,DZ,DW,D4,D3,cq.aR,go_sem,aaY,abc,s1,s2,mka,mkb,r1]
            · refine BC (fun k hk=> ?_) rfl
              obtain rfl:k=0:=by simpa using hk
              refine BB (o:=⟨some 106,.sl 1 (.t 104) (some (.t 105)) none none,none⟩) (g:=h5) (h':=h5) (d:=106) (u:=.aH id (A+257) (B+1) 1) rfl rfl rfl rfl ?_ ?_
              · simp only[ai,go_sem,aaY,abc,s2]
              · simp only[go_sem,C7]
           refine⟨h6,ov6,S6, ?_,r2,(fr4.trans m3).trans r3, ?_⟩
           · refine yE (fn:=AP.f24) (e:=[]) (vs:=[]) rfl rfl rfl ?_ rfl
             by_cases x3:yf lb=0
             · have x3':=vX x3
               simp only[I]at *
               simp only[AP.f24,go_sem,a1,b1,d1,w1,w2,w3,gf3,c1',aaU c2',aaU c3',bt,←hg0,←ha,oc,uo,l1',l2,l3,l4,l5,gf4,q1',ck,q2',bk,w4,m1,gf5,q3',aaY,abc,s1,s2,cka,x1',i2',i3,hel,x2',ckb,x3',last]
             · have x3':=vY x3
               have x4:zh lb=true:=by
                cases hs:zh lb with
                |true=>rfl
                |false=>exact absurd (.inr (.inr ⟨x3,hs⟩)) hbad
               rw[x4]at sgb
               simp only[I]at *
               simp only[AP.f24,go_sem,a1,b1,d1,w1,w2,w3,gf3,c1',aaU c2',aaU c3',bt,←hg0,←ha,oc,uo,l1',l2,l3,l4,l5,gf4,q1',ck,q2',bk,w4,m1,gf5,q3',aaY,abc,s1,s2,cka,x1',i2',i3,hel,x2',ckb,x3',sgb,last]
           · have h1:S5.at_=p2:=by rw[m4]
             have h2:S5.out=S.out:=by rw[m4,hS4,hS3]
             rw[h1,h2]at r4;exact r4
     · rw[if_neg hck]at hlens
       rw[hlens]
       exact bad2 (.inr hck)
   · rw[if_neg hp2]at hlens
     rw[hlens]
     refine bad2 (.inl ?_)
     rw[hS4,Fv (HC c) _ _ S3 he30 (by rw[hat3];exact hp) (by rw[hol,hat3];show 8* c.text.size<_;omega)];decide
 · rw[Ji c.text c.most S.out hp]
   refine bad (.inl ?_)
   rw[hS3,hS2,hS1]
   unfold yb
   by_cases q1:S.at_+5≤8* c.text.size
   · simp only[if_pos q1]
     by_cases q2:S.at_+5+5≤8* c.text.size
     · simp only[if_pos q2];rw[if_neg (by omega)];simp [xM,he]
     · simp only[if_neg q2,xM,he,if_true];split<;>simp
   · simp only[if_neg q1,xM,he,if_true]
     split
     · split<;>simp
     · simp;split<;>simp
theorem Gh {c:FC} {S:SS} {h:H} {ov:AV} (st:Ft c S h ov) (b:Int) (hs:b≠0∨(b=0∧S.e≠0)):
 ∃e',Lp AP.A [7,8] AP.f8L0 [(7,.aG c.f 0),(8,I b)] h=some (.exit 0,e',h)∧look e' 7=.aG c.f 0:=by
 have gf:=st.gf
 refine⟨[(7,.aG c.f 0),(29,.bool false)],u6 ?_,rfl⟩
 rcases hs with hb|⟨hb,he⟩
 · have c1:=vV hb
   simp only[I]at *
   simp only[AP.f8L0,go_sem,c1]
 · have c1:=vW hb
   have c2:=vV he
   simp only[I]at *
   simp only[AP.f8L0,go_sem,c1,gf,c2]
theorem Gg {c : FC} : ∀ (f : Nat) (S : SS) (h : H) (ov : AV), Ft c S h ov → S.e = 0 → 8 * c.text.size < S.at_ + f →
 ∃e' h' ov' S',Lp AP.A [7,8] AP.f8L0 [(7,.aG c.f 0),(8,I 0)] h=some (.exit 0,e',h')∧look e' 7=.aG c.f 0∧Ft c S' h' ov'∧FF c h ov h' ov'∧Fin (zR c.text c.most f S.at_ S.out) S'
 |0,S,h,ov,st,he,hk=>by have:=st.zl;omega
 | f + 1, S, h, ov, st, he, hk => by
   have gf:=st.gf
   rw[he]at gf
   obtain⟨h1,a1,a2,a3⟩:=zV st 1 1 rfl (by omega)
   obtain⟨h2,b1,b2,b3⟩:=zV a2 2 2 rfl (by omega)
   obtain⟨A,hA⟩:∃n,n=(yb c 1 S).1:=⟨_,rfl⟩
   obtain⟨S1,hS1⟩:∃n,n=(yb c 1 S).2:=⟨_,rfl⟩
   rw[←hA]at a1;rw[←hS1]at a2 b1 b2
   obtain⟨B,hB⟩:∃n,n=(yb c 2 S1).1:=⟨_,rfl⟩
   obtain⟨S2,hS2⟩:∃n,n=(yb c 2 S1).2:=⟨_,rfl⟩
   rw[←hB]at b1;rw[←hS2]at b2
   have gf2:=b2.gf
   have fr2:=a3.trans b3
   rw[zR]
   unfold AZ
   by_cases hp:S.at_+3≤8* c.text.size
   · rw [if_pos hp]
     have e1:yb c 1 S=(xJ c.text S.at_ 1,{S with at_:=S.at_+1}):=by rw[yb,if_pos (by omega)]
     rw[e1]at hA hS1;dsimp only at hA hS1
     have e2:yb c 2 {S with at_:=S.at_+1}=(xJ c.text (S.at_+1) 2,{S with at_:=S.at_+1+2}):=by rw[yb,if_pos (by show S.at_+1+2≤_;omega)]
     rw[hS1,e2]at hB hS2;dsimp only at hB hS2
     have he2:S2.e=0:=by rw[hS2];exact he
     have hat:S2.at_=S.at_+3:=by rw[hS2]
     have hout:S2.out=S.out:=by rw[hS2]
     have hA2:A<2:=by rw[hA];simpa using yt c.text S.at_ 1
     dsimp only
     rw[←hA,←hB]
     have ce:=vX he2
     have n0:((0:Int)==0)=true:=rfl
     have z0:((0:Int)==0)=true:=rfl
     have close:∀(r:Rs) (h':H) (ov':AV) (S':SS),aO (aU AP.A) bH AP.f8L0 (ay [(7,.aG c.f 0),(8,I 0)] [7,8]) h=some (.normal,[(7,.aG c.f 0),(8,I A)],h')→Ft c S' h' ov'→FF c h2 ov h' ov'→Fin r S'→(∀q,r=.ok q→S.at_<q.1)→
      ∃e' h' ov' S',Lp AP.A [7,8] AP.f8L0 [(7,.aG c.f 0),(8,I 0)] h=some (.exit 0,e',h')∧look e' 7=.aG c.f 0∧Ft c S' h' ov'∧FF c h ov h' ov'∧Fin (match (match r with| .ok q=>(.ok (A==1,q.1,q.2):Except Int (Bool×Nat×List Nat))| .error k=>.error k)with| .error k=>.error k| .ok (last,p2,o)=>if last then .ok (p2,o)else zR c.text c.most f p2 o) S':=by
      intro r h' ov' S' step q2 q3 q4 q5
      cases r with
      | error k =>
        have hs:(A:Int)≠0∨((A:Int)=0∧S'.e≠0):=by
         by_cases q:(A:Int)=0
         · exact .inr ⟨q,by rw[q4.1];exact q4.2⟩
         · exact .inl q
        obtain⟨e',r1,r2⟩:=Gh q2 A hs
        exact⟨e',h',ov',S',u9 step r1,r2,q2,fr2.trans q3,q4⟩
      | ok q =>
        obtain⟨p2,o⟩:=q
        simp only[Fin]at q4
        dsimp only
        by_cases hA1:A=1
        · have hb:(A==1)=true:=by rw[hA1];rfl
          rw[hb]
          simp only[if_true]
          obtain⟨e',r1,r2⟩:=Gh q2 A (.inl (by omega))
          exact⟨e',h',ov',S',u9 step r1,r2,q2,fr2.trans q3,q4⟩
        · have hA0:A=0:=by omega
          have hb:(A==1)=false:=by rw[hA0];rfl
          rw[hb]
          simp only[wR,xp]
          rw[hA0]at step
          subst q4
          have h5:=q5 (p2,o) rfl
          dsimp only at h5
          obtain⟨e',h'',ov'',S'',r1,r2,r3,r4,r5⟩:=Gg f _ h' ov' q2 rfl (by dsimp only;omega)
          exact⟨e',h'',ov'',S'',u9 step r1,r2,r3,(fr2.trans q3).trans r4,r5⟩
     by_cases d0:B=0
     · rw [if_pos d0]
       obtain⟨h',ov',S',q1,q2,q3,q4⟩:=Lh b2 he2
       rw[hat,hout]at q4
       have d0':((B:Int)==0)=true:=vW (by omega)
       refine close _ h' ov' S' ?_ q2 q3 q4 (fun q hq=> ?_)
       · simp only[I]at *
         simp only[AP.f8L0,go_sem,gf,a1,b1,gf2,ce,d0',q1]
       · unfold AQ at hq
         dsimp only at hq
         split at hq
         · split at hq
           · obtain⟨p2,o⟩:=q
             have:=Ea hq;dsimp only;omega
           · cases hq
         · cases hq
     · rw [if_neg d0]
       have d0':((B:Int)==0)=false:=vV (by omega)
       by_cases d1:B=1
       · rw[if_pos d1]
         have d1':((B:Int)==1)=true:=vW (by omega)
         have f1:=MJ h2
         have m1:=B6 h2 (xU yV) yV (by rw[A3];omega) (y8 _ _)
         have f2:=Ou h2
         have m2:=B6 h2 (xU (List.replicate 30 5)) (List.replicate 30 5) (by rw[abk];omega) (y8 _ _)
         obtain⟨h',ov',S',q1,q2,q3,q4⟩:=H0 yV (List.replicate 30 5) (by rw[A3];omega) (by rw[abk];omega) b2 he2
         rw[hat,hout]at q4
         refine close _ h' ov' S' ?_ q2 q3 q4 (fun q hq=>by obtain⟨p2,o⟩:=q;have:=Br hq;dsimp only;omega)
         generalize xS yV=bf at *
         generalize xS (List.replicate 30 5)=bd at *
         generalize xU yV=vf at *
         generalize xU (List.replicate 30 5)=vd at *
         simp only[I]at *
         simp only[AP.f8L0,go_sem,gf,a1,b1,gf2,ce,d0',d1',f1,m1,f2,m2,q1]
       · rw [if_neg d1]
         have d1':((B:Int)==1)=false:=vV (by omega)
         by_cases d2:B=2
         · rw [if_pos d2]
           have d2':((B:Int)==2)=true:=vW (by omega)
           obtain⟨h',ov',S',q1,q2,q3,q4⟩:=Jl b2 he2
           rw[hat,hout]at q4
           refine close _ h' ov' S' ?_ q2 q3 q4 (fun q hq=> ?_)
           · simp only[I]at *
             simp only[AP.f8L0,go_sem,gf,a1,b1,gf2,ce,d0',d1',d2',q1]
           · have hb:AZ c.text c.most S.at_ S.out=.ok (xJ c.text S.at_ 1==1,q.1,q.2):=by
              unfold AZ
              rw[if_pos hp]
              dsimp only
              rw[←hB,if_neg d0,if_neg d1,if_pos d2,hq]
             have:=F9 hb
             exact this
         · rw[if_neg d2]
           have d2':((B:Int)==2)=false:=vV (by omega)
           obtain⟨h',q1,q2,q3⟩:=Ap b2
           refine close (.error 700) h' ov _ ?_ q2 q3 ⟨by simp [xM,he2],by decide⟩ (fun q hq=>by cases hq)
           simp only[I]at *
           simp only[AP.f8L0,go_sem,gf,a1,b1,gf2,ce,d0',d1',d2',q1]
   · rw [if_neg hp]
     have he2:S2.e=700:=by
      by_cases q1:S.at_+1≤8* c.text.size
      · have e1:yb c 1 S=(xJ c.text S.at_ 1,{S with at_:=S.at_+1}):=by rw[yb,if_pos q1]
        rw[e1]at hS1;dsimp only at hS1
        have e2:yb c 2 S1=(0,{S1 with e:=700}):=by rw[yb,if_neg (by rw[hS1];show¬S.at_+1+2≤_;omega),xM,if_pos (by rw[hS1];exact he)]
        rw[e2]at hS2
        rw[hS2]
      · have e1:yb c 1 S=(0,{S with e:=700}):=by rw[yb,if_neg q1,xM,if_pos he]
        rw[e1]at hS1;dsimp only at hS1
        have e2:yb c 2 S1=(0,S1):=by rw[yb,if_neg (by rw[hS1];show¬S.at_+2≤_;omega),xM,if_neg (by rw[hS1];simp)]
        rw[e2]at hS2
        rw[hS2,hS1]
     have ce:(S2.e !=0)=true:=vY (by rw[he2];decide)
     refine⟨[(7,.aG c.f 0),(8,I A),(9,I B),(38,.bool true)],h2,ov,S2,u6 ?_,rfl,b2,fr2,he2,by decide⟩
     simp only[I]at *
     simp only[AP.f8L0,go_sem,gf,a1,b1,gf2,ce]
theorem Jm (h:H) (t:ByteArray) (most:Int) (hs:t.size<1125899906842624):aU AP.A 8 [.str t,I most] h=some (Lq (Ai t most),h):=by
 unfold Ai
 by_cases c1:most<0
 · rw[if_pos (.inl c1)]
   refine vP (fn:=AP.f8) (h2:=h.eO) (e:=[(4,.str ⟨#[]⟩),(5,I 0),(6,I 700)]) rfl rfl rfl ?_ rfl rfl
   simp only[I]at *
   simp only[AP.f8,go_sem,aaW c1]
 by_cases c2:8192<most
 · rw[if_pos (.inr c2)]
   refine vP (fn:=AP.f8) (h2:=h.eO) (e:=[(4,.str ⟨#[]⟩),(5,I 0),(6,I 700)]) rfl rfl rfl ?_ rfl rfl
   simp only[I]at *
   simp only[AP.f8,go_sem,aaU c1,aaW c2]
 rw[if_neg (by omega)]
 obtain⟨h1,hh1⟩:∃g,g=h.eO.alloc [.str t,I 0,.aS,I most,I 0]:=⟨_,rfl⟩
 have st:Ft ⟨h.next,t,most⟩ ⟨0,[],0⟩ h1 .aS:=by
  refine⟨?_,.inl ⟨rfl,rfl⟩, ?_,by simp [AV.id?], ?_,hs,by simp,by simp;omega,by show most≤900000;omega⟩
  · rw[hh1,H.aZ,if_pos (show h.next=h.eO.next from rfl)];rfl
  · rw[hh1];simp
  · rw[hh1];simp
 obtain⟨e',h3,ov,S,q1,q2,q3,q4,q5⟩:=Gg (8* t.size+1) ⟨0,[],0⟩ h1 .aS st rfl (by show 8* t.size<0+(8* t.size+1);omega)
 have gf:=q3.gf
 have bx:∀e:Env,look e 19=.agg [.str t,.int .i64 0,.aS,.int .i64 most,.int .i64 0]→bg e (.box 5 (.t 19))=some ([.str t,.int .i64 0,.aS,.int .i64 most,.int .i64 0],fun i=>.aG i 0):=by
  intro e q;simp only[bg,ur,q];rfl
 have fl1:eP [.str ⟨#[]⟩,.int .i64 0] [(0,1,.str t)]=some [.str t,.int .i64 0]:=rfl
 have fl2:eP [.str ⟨#[]⟩,.int .i64 0,.aS,.int .i64 0,.int .i64 0] [(0,2,.agg [.str t,.int .i64 0]),(3,1,.int .i64 most)]=some [.str t,.int .i64 0,.aS,.int .i64 most,.int .i64 0]:=rfl
 have hn:h.eO.next=h.next:=rfl
 dsimp only at q5
 cases hi:zR t most (8* t.size+1) 0 []with
 | error k =>
   rw[hi]at q5
   have c3:(S.e !=0)=true:=vY (by rw[q5.1];exact q5.2)
   have hk:S.e=k:=q5.1
   refine vP (fn:=AP.f8) (h2:=h3) (e:=[(4,.str ⟨#[]⟩),(5,I 0),(6,I k)]) rfl rfl rfl ?_ rfl rfl
   rw[hk]at gf c3
   simp only[I]at *
   simp only[AP.f8,go_sem,aaU c1,aaU c2,hn,aa5,abn,fl1,fl2]
   rw[bx _ rfl]
   simp only[go_sem,←hh1,hn,uo,q1,q2,gf,c3]
 | ok z =>
   obtain⟨p,o⟩:=z
   rw[hi]at q5
   simp only[Fin]at q5
   have c3:(S.e !=0)=false:=vX (by rw[q5])
   have hb:=JF q3.own
   subst q5
   dsimp only at gf hb c3
   have hle:=q3.zl
   dsimp only at hle
   have w2:IntKind.wrap .i64 ((p:Int)+7)=((p+7:Nat):Int):=xy (n:=p+7) (by omega)
   have qd:bC .quo (.int .i64 ((p+7:Nat):Int)) (.int .i64 8)=some (.int .i64 (((p+7)/8:Nat):Int)):=by
    rw[uc _ _ _ (by omega),show(8:Int)=((8:Nat):Int)from rfl,zN,xy (by omega)]
   refine vP (fn:=AP.f8) (h2:=h3) (e:=[(4,.str (bytesOf o)),(5,I ((p+7)/8:Nat)),(6,I 0)]) rfl rfl rfl ?_ rfl rfl
   generalize (p+7)/8=P at *
   generalize p+7=P7 at *
   simp only[I]at *
   simp only[AP.f8,go_sem,aaU c1,aaU c2,hn,aa5,abn,fl1,fl2]
   rw[bx _ rfl]
   simp only[go_sem,←hh1,hn,uo,q1,q2,gf,c3,w2,hb,qd]
abbrev E7 (k:Int):Prop:=k=700∨k=701
theorem FQ {t:ByteArray} {most k:Int}:∀{n p:Nat} {out:List Nat},zD t most n p out=.error k→E7 k
 |0,p,out,h=>by cases h
 | n + 1, p, out, h => by
   unfold zD at h
   split at h
   · split at h
     · cases h;exact .inr rfl
     · exact FQ h
   · cases h;exact .inl rfl
theorem IX {t:ByteArray} {most k:Int} {p:Nat} {out:List Nat} (h:AQ t most p out=.error k):E7 k:=by
 unfold AQ at h
 dsimp only at h
 split at h
 · split at h
   · exact FQ h
   · cases h;exact .inl rfl
 · cases h;exact .inl rfl
theorem Gc {most k:Int} {d:Nat}:∀{n:Nat} {out:List Nat},BX most d n out=.error k→E7 k
 |0,out,h=>by cases h
 | n + 1, out, h => by
   unfold BX at h
   split at h
   · cases h;exact .inr rfl
   · exact Gc h
theorem K9 {t : ByteArray} {most k : Int} {dl : List Int} {y p : Nat} {out : List Nat} (h : Dd t most dl y p out = .error k) : E7 k := by
 unfold Dd at h
 split at h
 · cases h;exact .inl rfl
 · split at h
   · split at h
     · cases h;exact .inl rfl
     · split at h
       · cases h;exact .inl rfl
       · split at h
         · split at h
           · cases h
           · rename_i q;cases h;exact Gc q
         · cases h;exact .inl rfl
   · cases h;exact .inl rfl
theorem BG {t : ByteArray} {most k : Int} {ll dl : List Int} : ∀ {n p : Nat} {out : List Nat}, Ag t most ll dl n p out = .error k → E7 k
 |0,p,out,h=>by cases h;exact .inl rfl
 | n + 1, p, out, h => by
   unfold Ag at h
   split at h
   · cases h;exact .inl rfl
   · split at h
     · split at h
       · cases h;exact .inr rfl
       · exact BG h
     · split at h
       · cases h
       · split at h
         · exact BG h
         · rename_i q;cases h;exact K9 q
theorem ME {t : ByteArray} {most k : Int} {p : Nat} {out : List Nat} (h : FZ t most p out = .error k) : E7 k := by
 unfold FZ at h
 dsimp only at h
 split at h
 · split at h
   · cases h;exact .inl rfl
   · split at h
     · cases h;exact .inl rfl
     · split at h
       · cases h;exact .inl rfl
       · exact BG h
 · cases h;exact .inl rfl
theorem Je {t : ByteArray} {most k : Int} {p : Nat} {out : List Nat} (h : AZ t most p out = .error k) : E7 k := by
 unfold AZ at h
 dsimp only at h
 split at h
 · split at h
   · cases h
   · rename_i q
     cases h
     split at q
     · exact IX q
     · split at q
       · exact BG q
       · split at q
         · exact ME q
         · cases q;exact .inl rfl
 · cases h;exact .inl rfl
theorem Eg {t:ByteArray} {most k:Int}:∀{n p:Nat} {out:List Nat},zR t most n p out=.error k→E7 k
 | 0, p, out, h => by
   unfold zR at h
   cases h;exact .inl rfl
 | n + 1, p, out, h => by
   unfold zR at h
   split at h
   · rename_i q;cases h;exact Je q
   · split at h
     · cases h
     · exact Eg h
theorem Dq {t:ByteArray} {most k:Int} (h:Ai t most=.error k):E7 k:=by
 unfold Ai at h
 split at h
 · cases h;exact .inl rfl
 · split at h
   · cases h
   · rename_i q;cases h;exact Eg q
theorem dt {p:Prop} [Decidable p] (h:p):decide p=true:=aaW h
theorem df {p:Prop} [Decidable p] (h:¬p):decide p=false:=aaU h
theorem Zn {a b:Int} (h:a=b):(a==b)=true:=by simp [h]
theorem Sy {a b:Int} (h:¬a=b):(a==b)=false:=by simp [h]
theorem Vh {a b:Int} (h:¬a=b):(a !=b)=true:=by simp [h]
theorem PQ {a b:Int} (h:a=b):(a !=b)=false:=by simp [h]
theorem wi {n:Int} (h: -9223372036854775808≤n∧n<9223372036854775808):IntKind.wrap .i64 n=n:=vC h.1 (by omega)
theorem wb {n:Int} (h:0≤n∧n<256):IntKind.wrap .u8 n=n:=by
 simp [IntKind.wrap,IntKind.bits,IntKind.signed];omega
theorem Qn {i:Int} {n:Nat} (h:0≤i∧i<n):dC (.int .i64 i) n=some i.toNat:=by
 simp [dC,pc,h]
def at_:Nat→aI→aI
 |0,.seq a _=>a
 |0,c=>c
 |n+1,.seq _ b=>at_ n b
 |_+1,c=>c
def I9:Nat→aI→aI
 |0,c=>c
 |n+1,.seq _ b=>I9 n b
 |_+1,c=>c
theorem yz (a b:aI):at_ 0 (.seq a b)=a:=rfl
theorem yD (n:Nat) (a b:aI):at_ (n+1) (.seq a b)=at_ n b:=rfl
theorem CW (c:aI):I9 0 c=c:=rfl
theorem CV (n:Nat) (a b:aI):I9 (n+1) (.seq a b)=I9 n b:=rfl
theorem B9 {h:H} {id i:Nat} (e:¬i=id):(h.del id).get i=h.get i:=by rw[H.eS,if_neg e]
theorem Dy (h:H):h.eO.next=h.next:=wM rfl rfl
theorem Dj (h:H):h.eO.floor=h.next:=wM rfl rfl
theorem Dm (h:H) (i:Nat):h.eO.get i=h.get i:=wM rfl rfl
theorem Hm (h:H) (i:Nat):(h.del i).next=h.next:=wM rfl rfl
theorem Ha (h:H) (i:Nat):(h.del i).floor=h.floor:=wM rfl rfl
theorem xE {h:H} {cs:List AV} {i:Nat} (e:i=h.next):(h.alloc cs).get i=some cs:=by rw[H.aZ,if_pos e]
theorem xI {h:H} {cs:List AV} {i:Nat} (e:¬i=h.next):(h.alloc cs).get i=h.get i:=by rw[H.aZ,if_neg e]
theorem xH {h:H} {cs:List AV} {id i:Nat} (e:i=id):(h.set id cs).get i=(h.get i).map fun _=>cs:=by rw[H.dY,if_pos e,e]
theorem xC {h:H} {cs:List AV} {id i:Nat} (e:¬i=id):(h.set id cs).get i=h.get i:=by rw[H.dY,if_neg e]
def zI {α:Type} (b:Bool) (x:α):Option α:=if b then some x else none
theorem zg {α:Type} (x:α):zI true x=some x:=rfl
theorem NJ (h:H) (id off n:Nat) (v cs:List AV):vR h id off n v (some cs)=zI (decide (h.floor≤id)&&(decide (v.length=n)&&(decide (off+n≤cs.length)&&AV.aE v))) (h.set id (setFrom cs off v)):=by
 simp only[vR,wP,zI]
 by_cases c:h.floor≤id∧v.length=n∧off+n≤cs.length∧AV.aE v=true
 · rw[if_pos c];obtain⟨c1,c2,c3,c4⟩:=c;simp [c1,c2,c3,c4]
 · rw[if_neg c,if_neg];simpa using c
theorem LO (n:Nat) (cs:List AV) (off:Nat):iO true n cs off=zI (decide (off+n≤cs.length)) (.agg ((cs.drop off).take n)):=by
 simp only[iO,zI,if_true,aa1]
theorem MH (z:List AV):eP z []=some z:=rfl
def H3 (r:List (Nat×Nat×AV)) (p:Option (List AV)):Option (List AV):=p.bind fun z=>eP z r
theorem J2 (r:List (Nat×Nat×AV)) (z:List AV):H3 r (some z)=eP z r:=rfl
theorem MG (z:List AV) (o n:Nat) (v:AV) (r:List (Nat×Nat×AV)):eP z ((o,n,v)::r)=H3 r (zI (decide (v.cells.length=n)&&(decide (o+n≤z.length)&&AV.aE v.cells)) (setFrom z o v.cells)):=by
 simp only[eP,zI]
 by_cases c:v.cells.length=n∧o+n≤z.length∧AV.aE v.cells=true
 · rw[if_pos c];obtain⟨c1,c2,c3⟩:=c;simp [c1,c2,c3,H3]
 · rw[if_neg c,if_neg]; · rfl
   simpa using c
def HL (p:Option (List AV)) (f:Nat→AV):Option (List AV×(Nat→AV)):=p.bind fun cs=>some (cs,f)
theorem GY (cs:List AV) (f:Nat→AV):HL (some cs) f=some (cs,f):=rfl
theorem Cr (e:Env) (z:List AV):bg e (.alloc z)=HL (zI (AV.aE z) z) (fun i=>.aG i 0):=by
 simp only[bg,zI];split<;>rfl
theorem GZ (e:Env) (n:Nat) (x:X):bg e (.box n x)=HL (zI (decide ((x.ev e).cells.length=n)&&AV.aE (x.ev e).cells) (x.ev e).cells) (fun i=>.aG i 0):=by
 simp only[bg,zI]
 by_cases c:(x.ev e).cells.length=n∧AV.aE (x.ev e).cells=true
 · rw[if_pos c];simp [c,HL]
 · rw[if_neg c,if_neg]; · rfl
   simpa using c
theorem EM (e:Env) (sz len:Nat) (z:List AV) (ps:List (Nat×X)):bg e (.dj sz len z ps)=HL (H3 (ps.map fun p=>(p.1* sz,sz,p.2.ev e)) (zI (decide (z.length=sz)&&(decide (0<sz)&&AV.aE z)) (eH len z))) (fun i=>.aH i 0 len sz):=by
 simp only[bg,zI]
 by_cases c:z.length=sz∧0<sz∧AV.aE z=true
 · rw[if_pos c];simp [c,HL,H3]
 · rw[if_neg c,if_neg]; · rfl
   simpa using c
theorem Nq (z:List AV):eH 0 z=[]:=rfl
theorem Np (n:Nat) (z:List AV):eH (n+1) z=z++eH n z:=rfl
def UX (yR:List Nat) (e:Env) (h:H) (b:Bool):ej:=if b then some (.normal,ay e yR,h)else none
theorem MP (yR:List Nat) (e:Env) (h:H):UX yR e h true=some (.normal,ay e yR,h):=rfl
def Zo (c:ae) (ops:List aj) (fl:List (Nat×List Nat)) (yR:List Nat) (p:Option (Env×H×List H)):ej:=p.bind fun q=>UX yR q.1 q.2.1 (bh c ops q.1 q.2.2 fl)
theorem PH (c:ae) (ops:List aj) (fl:List (Nat×List Nat)) (yR:List Nat) (e:Env) (h:H) (gs:List H):Zo c ops fl yR (some (e,h,gs))=UX yR e h (bh c ops e gs fl):=rfl
theorem JD (c:ae) (l:bQ) (ord:List Nat) (ops:List aj) (x:Nat×List Nat) (fl:List (Nat×List Nat)) (yR:List Nat) (e:Env) (h:H):aO c l (.jG ord ops (x::fl) yR) e h=Zo c ops (x::fl) yR (aQ c ops e h):=by
 rw[aO];rfl
theorem Qg (c:ae) (ops:List aj) (e:Env) (gs:List H):bh c ops e gs []=true:=rfl
def Yy (c:ae) (ops:List aj) (e:Env) (gs:List H) (i:Nat) (ks:List Nat):Bool:=ks.all (bO c ops e gs i)
theorem Qf (c:ae) (ops:List aj) (e:Env) (gs:List H) (i:Nat) (ks:List Nat) (r:List (Nat×List Nat)):bh c ops e gs ((i,ks)::r)=(Yy c ops e gs i ks&&bh c ops e gs r):=rfl
theorem Qd (c:ae) (ops:List aj) (e:Env) (gs:List H) (i:Nat):Yy c ops e gs i []=true:=rfl
def FO (c : ae) (e : Env) (o : Option aj) (g : Option H) : Bool := match o, g with
 | some o, some g =>
   if o.op.aK then
    match o.dst.map (look e)with
    |some (.bW [])=>true
    | some v => (match v.id?, bg e o.op with
      |some id,some b=>(match g.get id with|some cs=>AV.ib cs b.1|none=>false)
      |_,_=>false)
    |none=>false
   else match o.dst.map (look e)with
    |some v=>(match ai c o e g with|some (u,_)=>AV.beq u v|none=>false)
    |none=>false
 |_,_=>false
theorem Qc (c:ae) (ops:List aj) (e:Env) (gs:List H) (i k:Nat) (r:List Nat):Yy c ops e gs i (k::r)=(FO c e (ops[i]?) (gs[k]?)&&Yy c ops e gs i r):=by
 unfold Yy
 rw[abE]
 congr 1
def Zg (v:AV) (p:Option (AV×H)):Bool:=match p with|some (u,_)=>AV.beq u v|none=>false
theorem Qe (v u:AV) (h:H):Zg v (some (u,h))=AV.beq u v:=rfl
def VL (b:Bool) (x y:Bool):Bool:=if b then x else y
theorem Qa (x y:Bool):VL false x y=y:=rfl
def F4 (c:ae) (e:Env) (o:Option aj) (g:Option H):Bool:=FO c e o g
theorem P9 (c:ae) (e:Env) (d:Nat) (op:cq) (g:H):FO c e (some ⟨some d,op,none⟩) (some g)=VL op.aK (F4 c e (some ⟨some d,op,none⟩) (some g)) (Zg (look e d) (ah c e g op)):=by
 unfold F4 FO VL
 dsimp only
 cases op.aK<;>rfl
theorem P5 (c:ae) (e:Env) (d:Nat) (op:cq) (k:Nat) (w:Bool) (g:H):FO c e (some ⟨some d,op,some (k,w)⟩) (some g)=VL op.aK (F4 c e (some ⟨some d,op,some (k,w)⟩) (some g)) (Zg (look e d) (mK w c e g op (look e k))):=by
 unfold F4 FO VL
 dsimp only
 cases op.aK with
 |true=>rfl
 |false=>rw[oj];rfl
mutual
theorem beq_refl:∀a:AV,AV.beq a a=true
 | .bot=>rfl
 | .bool b=>by simp [AV.beq]
 | .int k n=>by simp [AV.beq]
 | .str s=>Er s
 | .cT=>rfl
 | .aG i o=>by simp [AV.beq]
 | .aN c o=>by simp [AV.beq,zF c]
 | .aS=>rfl
 | .aH i o l z=>by simp [AV.beq]
 | .aY t c o l z=>by simp [AV.beq,zF c]
 | .fn f a b=>by simp [AV.beq,zF a,zF b]
 | .fM=>rfl
 | .iface t v=>by simp [AV.beq,beq_refl v]
 | .fN=>rfl
 | .agg c=>by simp [AV.beq,zF c]
 | .bW c=>by simp [AV.beq,zF c]
theorem zF:∀l:List AV,AV.ib l l=true
 |[]=>rfl
 |a::l=>by simp [AV.ib,beq_refl a,zF l]
end
theorem Qb (x y:Bool):VL true x y=x:=rfl
def VW (c:Option (List AV)) (d:List AV):Bool:=match c with|some cs=>AV.ib cs d|none=>false
theorem Py (c d:List AV):VW (some c) d=AV.ib c d:=rfl
def Hw (v : AV) (b : Option (List AV × (Nat → AV))) (g : H) : Bool := match v with
 | .bW []=>true
 | v => match v.id?, b with
   |some id,some b=>VW (g.get id) b.1
   |_,_=>false
theorem NI (b:Option (List AV×(Nat→AV))) (g:H):Hw (.bW []) b g=true:=rfl
theorem NH (i o:Nat) (cs:List AV) (f:Nat→AV) (g:H):Hw (.aG i o) (some (cs,f)) g=VW (g.get i) cs:=rfl
theorem NG (i o l z:Nat) (cs:List AV) (f:Nat→AV) (g:H):Hw (.aH i o l z) (some (cs,f)) g=VW (g.get i) cs:=rfl
theorem ED {c : ae} {e : Env} {d : Nat} {op : cq} {gd : Option (Nat × Bool)} {g : H} (hb : op.aK = true) : F4 c e (some ⟨some d, op, gd⟩) (some g) = Hw (look e d) (bg e op) g := by
 unfold F4 FO
 dsimp only
 rw[hb,if_pos rfl]
 show (match some (look e d) with
  |some (.bW [])=>true
  | some v => (match v.id?, bg e op with
    |some id,some b=>(match g.get id with|some cs=>AV.ib cs b.1|none=>false)
    |_,_=>false)
  |none=>false)=_
 generalize look e d=v
 unfold Hw VW
 cases v with
 |bW vs=>cases vs<;>rfl
 |_=>cases bg e op<;>rfl
theorem FP (c:ae) (e:Env) (d:Nat) (z:List AV) (gd:Option (Nat×Bool)) (g:H):F4 c e (some ⟨some d,.alloc z,gd⟩) (some g)=Hw (look e d) (bg e (.alloc z)) g:=ED rfl
theorem IW (c:ae) (e:Env) (d n:Nat) (x:X) (gd:Option (Nat×Bool)) (g:H):F4 c e (some ⟨some d,.box n x,gd⟩) (some g)=Hw (look e d) (bg e (.box n x)) g:=ED rfl
theorem En (c:ae) (e:Env) (d n m:Nat) (z:List AV) (ps:List (Nat×X)) (gd:Option (Nat×Bool)) (g:H):F4 c e (some ⟨some d,.dj n m z ps,gd⟩) (some g)=Hw (look e d) (bg e (.dj n m z ps)) g:=ED rfl
theorem GO (c:ae) (e:Env) (d n m:Nat) (z:List AV) (x y:X) (gd:Option (Nat×Bool)) (g:H):F4 c e (some ⟨some d,.jI n m z x y,gd⟩) (some g)=Hw (look e d) (bg e (.jI n m z x y)) g:=ED rfl
theorem HH (b:Bool):AV.beq (.bool b) (.bool b)=true:=by simp [AV.beq]
theorem HK:AV.beq (.bW []) (.bW [])=true:=rfl
theorem HI:AV.beq .aS .aS=true:=rfl
theorem F7:AV.beq .cT .cT=true:=rfl
theorem Jt (sz id off len:Nat) (i:AV):gZ sz (.aH id off len sz) i=wc id off sz (dC i len):=by simp [gZ,wc]
theorem MT (t:Bool) (cells:List AV) (sz off len:Nat) (i:AV):gZ sz (.aY t cells off len sz) i=wg cells off sz (dC i len):=by simp [gZ,wg]
def GH (n:Nat) (z:List AV):List AV:=eH n z
def PO (sz bytes:Nat) (zero:List AV) (l c:AV):Option (List AV×(Nat→AV)):=
 match l,c with
 | .int .i64 l,.int .i64 c=>HL (zI (decide (0≤l)&&(decide (l≤c)&&(decide (c≤9223372036854775807)&&(decide ((bytes:Int)* c≤281474976710656)&&(decide (zero.length=sz)&&(decide (0<sz)&&AV.aE zero)))))) (GH c.toNat zero)) (fun i=>.aH i 0 l.toNat sz)
 |_,_=>none
theorem Hl (sz bytes:Nat) (zero:List AV) (l c:Int):PO sz bytes zero (.int .i64 l) (.int .i64 c)=HL (zI (decide (0≤l)&&(decide (l≤c)&&(decide (c≤9223372036854775807)&&(decide ((bytes:Int)* c≤281474976710656)&&(decide (zero.length=sz)&&(decide (0<sz)&&AV.aE zero)))))) (GH c.toNat zero)) (fun i=>.aH i 0 l.toNat sz):=rfl
theorem HM (e : Env) (sz bytes : Nat) (zero : List AV) (l c : X) : bg e (.jI sz bytes zero l c) = PO sz bytes zero (l.ev e) (c.ev e) := by
 simp only[bg]
 cases l.ev e with
 | int k l => cases k <;> cases c.ev e with
   | int k2 c => cases k2 <;> first
     |rfl
     | (simp only [Hl, zI]
        by_cases q:0≤l∧l≤c∧c≤9223372036854775807∧(bytes:Int)* c≤281474976710656∧zero.length=sz∧0<sz∧AV.aE zero=true
        · rw[if_pos q];obtain⟨q1,q2,q3,q4,q5,q6,q7⟩:=q
          rw[if_pos]
          · rfl
          · simp [q1,q2,q3,q4,q5,q6,q7]
        · rw[if_neg q,if_neg]
          · rfl
          · simpa using q)
   |_=>rfl
 |_=>cases c.ev e<;>rfl
theorem Mb (i o l z:Nat):jQ false (.aH i o l z)=some (.int .i64 l):=rfl
theorem Ma:jQ false .aS=some (.int .i64 0):=rfl
theorem L9 (t:Bool) (c:List AV) (o l z:Nat):jQ false (.aY t c o l z)=some (.int .i64 l):=rfl
theorem CY (s:ByteArray):jQ true (.str s)=some (.int .i64 s.size):=rfl
theorem NQ (a b:Nat):((a:Int)+(b:Int)).toNat=a+b:=by omega
theorem yZ (a:Nat):((a:Int)).toNat=a:=by omega
def AU (s:ByteArray) (i:Nat):Nat:=((s[i]?).map (·.toNat)).getD 0
theorem B7 (s:ByteArray) (i:Nat):AU s i<256:=by
 unfold AU
 cases s[i]? with
 |none=>simp
 |some b=>simp;exact b.toNat_lt
theorem Ey {s:ByteArray} {i:Int} (h:0≤i∧i<s.size):nH (.str s) (.int .i64 i)=some (.int .u8 (AU s i.toNat:Nat)):=by
 have hi:i.toNat<s.size:=by omega
 simp [nH,Qn h,AU,hi]
def D7 {α:Type} (b:Bool) (x y:Option α):Option α:=if b then x else y
theorem Nw {α:Type} (x y:Option α):D7 true x y=x:=rfl
theorem Nv {α:Type} (x y:Option α):D7 false x y=y:=rfl
def Vw (n o k:Nat) (p:Option (List AV)):Option (Nat×List AV):=p.bind fun cs=>zI (decide (o+k* n≤cs.length)) (k,(cs.drop o).take (k* n))
theorem NF (n o k:Nat) (cs:List AV):Vw n o k (some cs)=zI (decide (o+k* n≤cs.length)) (k,(cs.drop o).take (k* n)):=rfl
theorem P3 (h:H) (n p o k:Nat):aV h n (.aH p o k n)=Vw n o k (h.get p):=by
 simp only[aV,if_true,Vw]
 cases h.get p with
 |none=>rfl
 |some cs=>simp only[wP,zI,aa1]
theorem P1 (h:H) (t:Bool) (n o k:Nat) (cs:List AV):aV h n (.aY t cs o k n)=zI (decide (o+k* n≤cs.length)) (k,(cs.drop o).take (k* n)):=by
 simp only[aV,if_true,zI,aa1]
theorem P2 (h:H) (n:Nat):aV h n .aS=some (0,[]):=wM rfl rfl
theorem P4 (h:H) (s:ByteArray):aV h 1 (.str s)=some (s.size,s.data.toList.map fun b=>.int .u8 b.toNat):=wM rfl rfl
def VR (h:H) (n z:Nat) (a:AV) (p:Option (Nat×List AV)):Option (AV×H):=p.bind fun r=>eK h n z a r.1 r.2
theorem Mf (h:H) (n z:Nat) (a:AV) (m:Nat) (bs:List AV):VR h n z a (some (m,bs))=eK h n z a m bs:=rfl
theorem Pw (h:H) (n z:Nat) (a b:AV):mo h n z a b=VR h n z a (aV h n b):=wM rfl rfl
def YP (h:H) (n z p o k m:Nat) (bs:List AV) (q:Option (List AV)):Option (AV×H):=q.bind fun cs=>
 D7 (decide (o+(k+m)* n≤cs.length)) (some (.aH p o (k+m) n,h.set p (setFrom cs (o+k* n) bs))) (D7 (decide (o+k* n=cs.length)&&roomy z (k+m)) (some (.aH h.next 0 (k+m) n,(h.del p).alloc (cs.drop o++bs))) none)
theorem Pt (h:H) (n z p o k m:Nat) (bs cs:List AV):YP h n z p o k m bs (some cs)=D7 (decide (o+(k+m)* n≤cs.length)) (some (.aH p o (k+m) n,h.set p (setFrom cs (o+k* n) bs))) (D7 (decide (o+k* n=cs.length)&&roomy z (k+m)) (some (.aH h.next 0 (k+m) n,(h.del p).alloc (cs.drop o++bs))) none):=rfl
theorem Pv (h : H) (n z p o k m : Nat) (bs : List AV) : eK h n z (.aH p o k n) m bs = D7 (decide (m = 0)) (some (.aH p o k n, h)) (D7 (AV.aE bs && (decide (0 < n) && decide (h.floor ≤ p))) (YP h n z p o k m bs (h.get p)) none) := by
 unfold eK D7
 by_cases c:m=0
 · simp [c]
 · rw [if_neg c]
   simp only[aa1,if_neg c]
   by_cases c1:AV.aE bs=false∨n=0
   · rw[if_pos c1,if_neg]
     rcases c1 with c1|c1
     · simp [c1]
     · simp [c1]
   · rw[if_neg c1]
     have q1:AV.aE bs=true:=by cases q:AV.aE bs with|true=>rfl|false=>exact absurd (.inl q) c1
     by_cases c2:h.floor≤p
     · have qq:(AV.aE bs&&(decide (0<n)&&decide (h.floor≤p)))=true:=by simp [q1,c2];omega
       simp only[true_and,if_pos c2,qq,if_true,YP,D7]
       cases h.get p with
       |none=>rfl
       |some cs=>simp only[wP,aa1,wT]
     · have qq:(AV.aE bs&&(decide (0<n)&&decide (h.floor≤p)))=false:=by simp [c2]
       simp only[true_and,if_neg c2,qq];rfl
theorem Pu (h:H) (n z m:Nat) (bs:List AV):eK h n z .aS m bs=D7 (decide (m=0)) (some (.aS,h)) (D7 (AV.aE bs&&(decide (0<n)&&roomy z m)) (some (.aH h.next 0 m n,h.alloc bs)) none):=by
 unfold eK D7
 by_cases c:m=0
 · simp [c]
 · rw[if_neg c]
   simp only[aa1,if_neg c]
   by_cases c1:AV.aE bs=false∨n=0
   · rw[if_pos c1,if_neg]
     rcases c1 with c1|c1
     · simp [c1]
     · simp [c1]
   · rw[if_neg c1]
     have q1:AV.aE bs=true:=by cases q:AV.aE bs with|true=>rfl|false=>exact absurd (.inl q) c1
     have q2:0<n:=by omega
     simp [q1,q2]
theorem Ky {b n:Nat} (h:1≤b∧(n+n/4+512)* b≤281474976710656):roomy b n=true:=by simp only[roomy,h.1,h.2,and_self,decide_true]
theorem Yx {h:H} {n p o k:Nat} {m:Int} {cs:List AV} (hg:h.get p=some cs) (hn:0<n) (hk:o+k* n≤cs.length) (hm:0≤m∧m.toNat≤(cs.length-o)/n):ug h n (.aH p o k n) none (some (.int .i64 m)) none=some (.aH p o m.toNat n):=by
 have h1:k≤(cs.length-o)/n:=by rw[Nat.le_div_iff_mul_le hn];omega
 simp only[ug,hn,and_self,if_true,hg,wP,aD]
 rw[if_pos ⟨by omega,h1⟩]
 have h3:lD (.int .i64 m) ((cs.length-o)/n)=some m.toNat:=by
  simp only[lD,pc,wP]
  rw[if_pos]
  omega
 simp [h3]
theorem Bm {α:Type} {C:α→List AV} {n:Nat} (hC:∀x,(C x).length=n):∀{l:List α} {i f:Nat} {x:α},l[i]?=some x→f<n→(l.flatMap C)[i* n+f]?=(C x)[f]?
 |[],i,f,x,h,_=>by simp at h
 | y :: l, 0, f, x, h, hf => by
   obtain rfl:y=x:=by simpa using h
   rw[abh,Nat.zero_mul,wY,abf (by rw[hC];exact hf)]
 | y :: l, i + 1, f, x, h, hf => by
   rw[abh,abj (by rw[hC,xk];omega),hC]
   rw[show(i+1)* n+f-n=i* n+f by rw[xk];omega]
   exact Bm hC (by simpa using h) hf
theorem Hb {α:Type} {C:α→List AV} {n:Nat} (hC:∀x,(C x).length=n):∀l:List α,(l.flatMap C).length=l.length* n
 |[]=>by simp
 |y::l=>by rw[abh,xu,hC,Hb hC l,aaV,xk];omega
theorem Hc {α:Type} {C:α→List AV} {n:Nat} (hC:∀x,(C x).length=n):∀{l:List α} {i:Nat} {x:α},l[i]?=some x→((l.flatMap C).drop (i* n)).take n=C x
 |[],i,x,h=>by simp at h
 | y :: l, 0, x, h => by
   obtain rfl:y=x:=by simpa using h
   rw[abh,Nat.zero_mul,aa8,List.take_append_of_le_length (by rw[hC];omega),xj (by rw[hC];omega)]
 | y :: l, i + 1, x, h => by
   rw[abh,List.drop_append,List.drop_of_length_le (by rw[hC,xk];omega),abB,hC,show(i+1)* n-n=i* n by rw[xk];omega]
   exact Hc hC (by simpa using h)
def yM (n:Nat) (h:H) (v:AV) (k:Nat) (cs:List AV):Prop:=aV h n v=some (k,cs)∧cs.length=k* n∧∀s,v≠.str s
theorem Rd.HB {h:H} {v:AV} {cs:List AV} (r:Rd h v cs):yM 1 h v cs.length cs:=⟨r.1,by omega,r.2⟩
theorem yM.len {n:Nat} {h:H} {v:AV} {k:Nat} {cs:List AV} (r:yM n h v k cs):jQ false v=some (.int .i64 k):=by
 obtain⟨r,_,hs⟩:=r
 unfold aV at r
 split at r
 · obtain⟨h1,h2⟩:=wJ (wH r);subst h1;rfl
 · exact absurd rfl (hs _)
 · split at r
   · simp only[wG]at r
     obtain⟨c,_,r⟩:=r
     split at r
     · obtain⟨h1,h2⟩:=wJ (wH r);simp [jQ,h1]
     · cases r
   · cases r
 · split at r
   · split at r
     · obtain⟨h1,h2⟩:=wJ (wH r);simp [jQ,h1]
     · cases r
   · cases r
 · cases r
theorem yM.mono {n:Nat} {h g:H} {v:AV} {k:Nat} {cs:List AV} (r:yM n h v k cs) (hg:∀id c,h.get id=some c→g.get id=some c):yM n g v k cs:=by
 obtain⟨r,hl,hs⟩:=r
 refine⟨?_,hl,hs⟩
 unfold aV at r ⊢
 split at r
 · exact r
 · exact r
 · split at r
   · rename_i q;simp only[if_pos q,wG]at r ⊢
     obtain⟨c,h1,r⟩:=r
     exact⟨c,hg _ _ h1,r⟩
   · cases r
 · exact r
 · cases r
theorem yM.at_ {n : Nat} {h : H} {v : AV} {k : Nat} {cs : List AV} (r : yM n h v k cs) : ∃ ad : Int → Nat → AV,
 (∀i:Int,0≤i∧i<k→gZ n v (.int .i64 i)=some (ad i 0))∧
 (∀(i:Int) (f g:Nat),0≤i∧i<k→fZ g (ad i f)=some (ad i (f+g)))∧
 (∀(i:Int) (f:Nat) (g:H),0≤i∧i<k→kh g (ad i f)=some (ad i f,g))∧
 (∀g:H,(∀id c,h.get id=some c→g.get id=some c)→(∀(i:Int) (f:Nat) (c:AV),0≤i∧i<k→cs[i.toNat* n+f]?=some c→cf false 1 (ad i f) g=some c)∧
   ∀i:Int,0≤i∧i<k→cf true n (ad i 0) g=some (.agg ((cs.drop (i.toNat* n)).take n))):=by
 obtain⟨r,hl,hs⟩:=r
 unfold aV at r
 split at r
 · obtain⟨h1,h2⟩:=wJ (wH r);subst h1
   exact⟨fun _ _=>.bot,fun i hi=>by omega,fun i f g hi=>by omega,fun i f g hi=>by omega,fun g _=>⟨fun i f c hi=>by omega,fun i hi=>by omega⟩⟩
 · exact absurd rfl (hs _)
 · rename_i id off len s
   split at r
   · rename_i q
     subst q
     simp only[wG]at r
     obtain⟨d,hd,r⟩:=r
     split at r
     · rename_i hle
       obtain⟨h1,h2⟩:=wJ (wH r)
       subst h1
       have bnd:∀i:Int,0≤i∧i<len→i.toNat* s+s≤len* s:=fun i hi=>by
        have:=wW s (show i.toNat+1≤len by omega);rw[xk]at this;omega
       refine⟨fun i f=>.aG id (off+i.toNat* s+f),fun i hi=>by simp [gZ,Qn hi],fun i f g _=>by simp [fZ];omega,fun i f g _=>rfl,fun g hg=>⟨fun i f c hi hc=> ?_,fun i hi=> ?_⟩⟩
       · simp only[cf,hg _ _ hd,wP,iO,wR,xp]
         rw[←h2,xr]at hc
         split at hc
         · rw[xc]at hc;rw[wS];exact hc
         · cases hc
       · have:=bnd i hi
         simp only[cf,hg _ _ hd,wP,iO,if_true,abl]
         rw[if_pos (by omega),←h2,List.drop_take,List.take_take,List.drop_drop,Nat.min_eq_left (by omega)]
     · cases r
   · cases r
 · rename_i t cells off len s
   split at r
   · rename_i q
     subst q
     split at r
     · rename_i hle
       obtain⟨h1,h2⟩:=wJ (wH r)
       subst h1
       have bnd:∀i:Int,0≤i∧i<len→i.toNat* s+s≤len* s:=fun i hi=>by
        have:=wW s (show i.toNat+1≤len by omega);rw[xk]at this;omega
       refine⟨fun i f=>.aN cells (off+i.toNat* s+f),fun i hi=>by simp [gZ,Qn hi],fun i f g _=>by simp [fZ];omega,fun i f g _=>rfl,fun g hg=>⟨fun i f c hi hc=> ?_,fun i hi=> ?_⟩⟩
       · simp only[cf,iO,wR,xp]
         rw[←h2,xr]at hc
         split at hc
         · rw[xc]at hc;rw[wS];exact hc
         · cases hc
       · have:=bnd i hi
         simp only[cf,iO,if_true,abl]
         rw[if_pos (by omega),←h2,List.drop_take,List.take_take,List.drop_drop,Nat.min_eq_left (by omega)]
     · cases r
   · cases r
 · cases r
def x8 (n:Nat) (h:H) (v:AV) (k:Nat) (cs:List AV):Prop:=cs.length=k* n∧((v=.aS∧k=0)∨∃id,v=.aH id 0 k n∧h.get id=some cs∧h.floor≤id∧0<k)
theorem x8.nil {n:Nat} {h:H}:x8 n h .aS 0 []:=⟨by simp,.inl ⟨rfl,rfl⟩⟩
theorem x8.mono {n:Nat} {h g:H} {v:AV} {k:Nat} {cs:List AV} (o:x8 n h v k cs) (hf:g.floor=h.floor) (hg:∀i,v.id?=some i→g.get i=h.get i):x8 n g v k cs:=by
 obtain⟨l,o⟩:=o
 refine⟨l, ?_⟩
 rcases o with o|⟨id,rfl,h1,h2,h3⟩
 · exact .inl o
 · exact .inr ⟨id,rfl,by rw[hg id rfl];exact h1,by rw[hf];exact h2,h3⟩
theorem x8.sc {n:Nat} {h:H} {v:AV} {k:Nat} {cs:List AV} (o:x8 n h v k cs):v.sc=true:=by
 rcases o.2 with ⟨rfl,_⟩|⟨id,rfl,_⟩<;>rfl
theorem x8.lt {n:Nat} {h:H} {v:AV} {k:Nat} {cs:List AV} (o:x8 n h v k cs) {i:Nat} (hi:v.id?=some i):h.floor≤i∧i<h.next:=by
 rcases o.2 with ⟨rfl,_⟩|⟨id,rfl,h1,h2⟩
 · cases hi
 · obtain rfl:=wH hi;exact⟨h2.1,h.lt _ _ h1⟩
theorem x8.rd {n:Nat} {h:H} {v:AV} {k:Nat} {cs:List AV} (o:x8 n h v k cs):yM n h v k cs:=by
 obtain⟨l,o⟩:=o
 rcases o with ⟨rfl,rfl⟩|⟨id,rfl,h1,h2⟩
 · have:cs=[]:=aa7 (by omega)
   subst this
   exact⟨rfl,by simp,fun _=>by simp⟩
 · refine⟨?_,l,fun _=>by simp⟩
   simp only[aV,if_true,h1,wP,wY]
   rw[if_pos (by omega),aa8,xj (by omega)]
theorem x8.app {n:Nat} {h:H} {v:AV} {k:Nat} {cs:List AV} (o:x8 n h v k cs) (hfn:h.floor≤h.next) {z m:Nat} (hm:0<m) (hn:0<n) (bs:List AV) (hb:bs.length=m* n) (hc:AV.aE bs=true) (hr:roomy z (k+m)=true):
 ∃v' h',eK h n z v m bs=some (v',h')∧x8 n h' v' (k+m) (cs++bs)∧h'.floor=h.floor∧h.next≤h'.next∧(∀i,v.id?≠some i→i≠h.next→h'.get i=h.get i)∧v'.id?=some h.next:=by
 obtain⟨hl,o⟩:=o
 have hll:(cs++bs).length=(k+m)* n:=by rw[xu,hl,hb,xk]
 rcases o with ⟨rfl,rfl⟩|⟨id,rfl,hg,hf,_⟩
 · have:cs=[]:=aa7 (by omega)
   subst this
   refine⟨.aH h.next 0 m n,h.alloc bs, ?_,⟨hll,.inr ⟨h.next,by simp,by simp [H.aZ],by simp;omega,by omega⟩⟩,by simp,by simp,fun i _ hi=>by rw[H.aZ,if_neg hi],rfl⟩
   unfold eK
   rw[if_neg (by omega),if_neg (by simp [hc];omega)]
   rw[wY]at hr
   simp only[hr,if_true]
 · have hmn:0<m* n:=Nat.mul_pos hm hn
   have hnot:¬0+(k+m)* n≤cs.length:=by rw[hl,xk];omega
   refine⟨.aH h.next 0 (k+m) n,(h.del id).alloc (cs++bs), ?_,⟨hll,.inr ⟨h.next,by simp,by simp [H.aZ], ?_,by omega⟩⟩,by simp,by simp,fun i h1 h2=> ?_,rfl⟩
   · unfold eK
     rw[if_neg (by omega),if_neg (by simp [hc];omega)]
     simp only[hf,and_self,if_true,hg,wP]
     rw[if_neg hnot,if_pos ⟨by omega,hr⟩]
     simp
   · have:=h.lt id cs hg;simp;omega
   · rw[H.aZ,H.kd,if_neg h2,H.eS,if_neg]
     intro e;subst e;exact h1 rfl
theorem x8.push {n:Nat} {h:H} {v:AV} {k:Nat} {cs:List AV} (o:x8 n h v k cs) (hfn:h.floor≤h.next) {z m:Nat} (hm:0<m) (hn:0<n) (bs:List AV) (hb:bs.length=m* n) (hc:AV.aE bs=true) (hr:roomy z (k+m)=true):
 ∃v' h',mo (h.alloc bs) n z v (.aH h.next 0 m n)=some (v',h')∧x8 n h' v' (k+m) (cs++bs)∧h'.floor=h.floor∧h.next+1≤h'.next∧(∀i,v.id?≠some i→i<h.next→h'.get i=h.get i)∧v'.id?=some (h.next+1):=by
 have o1:x8 n (h.alloc bs) v k cs:=o.mono (by simp) fun i q=>by rw[H.aZ,if_neg];have:=o.lt q;omega
 obtain⟨v',h',p1,p2,p3,p4,p5,p6⟩:=o1.app (z:=z) (by simp;omega) hm hn bs hb hc hr
 refine⟨v',h', ?_,p2,by rw[p3];simp,by simpa using p4,fun i q1 q2=> ?_,by simpa using p6⟩
 · have src:aV (h.alloc bs) n (.aH h.next 0 m n)=some (m,bs):=by
    simp only[aV,if_true,H.aZ,wP,wY]
    rw[if_pos (by omega),aa8,xj (by omega)]
   unfold mo;rw[src,wP];exact p1
 · rw[p5 i q1 (by simp;omega),H.aZ,if_neg (by omega)]
def CG (n k:Nat) (cs:List AV):AV:=if k=0 then .aS else .aY false cs 0 k n
theorem FD {n k:Nat} {h:H} {cs:List AV} (hl:cs.length=k* n):yM n h (CG n k cs) k cs:=by
 unfold CG
 by_cases hk:k=0
 · subst hk
   have:cs=[]:=aa7 (by omega)
   subst this
   exact⟨rfl,by simp,fun _=>by simp⟩
 · rw[if_neg hk]
   refine⟨?_,hl,fun _=>by simp⟩
   simp only[aV,if_true,wY]
   rw[if_pos (by omega),aa8,xj (by omega)]
theorem x8.Aa {n:Nat} {h:H} {v:AV} {k:Nat} {l:List Int} {fl m:Nat} {t:Bool} (o:x8 n h v k (ints l)) (hf:fl≤h.floor):snap h.get fl (m+2) t v=some (CG n k (ints l)):=by
 obtain⟨hl,o⟩:=o
 rw[rk]at hl
 rcases o with ⟨rfl,rfl⟩|⟨id,rfl,q,h2,hk⟩
 · rfl
 · unfold snap
   rw[if_neg (by omega),q,wP,if_pos (by rw[rk];omega)]
   rw[aa8,xj (by rw[rk];omega),zG]
   unfold CG
   rw[if_neg (by omega)];rfl
attribute [go_sem] List.map_cons List.map_nil Bool.and_true Bool.true_and Bool.and_self List.append_nil Option.map_some Option.map_none Bool.and_false Bool.false_and Bool.or_false Bool.or_true Bool.true_or Bool.false_or Bool.or_self cq.aR cq.aK Int.reduceAdd Int.reduceSub Int.reduceMul Int.reduceNeg Int.reduceToNat List.take_succ_cons List.take_zero List.drop_zero List.drop_succ_cons Int.cast_ofNat_Int Int.natCast_one Int.natCast_zero List.length_set
theorem xF:type_of% @dt∧type_of% @df∧type_of% @Zn∧type_of% @Sy∧type_of% @Vh∧type_of% @PQ∧type_of% @wi∧type_of% @wb∧type_of% @CY∧type_of% @Ey∧type_of% @NQ∧type_of% @yZ∧type_of% @Qn∧type_of% @xE∧type_of% @xI∧type_of% @xH∧type_of% @xC∧type_of% @H.j4∧type_of% @H.lg∧type_of% @H.mJ∧type_of% @H.kg∧type_of% @NJ∧type_of% @zg∧type_of% @MH∧type_of% @MG∧type_of% @J2∧type_of% @EM∧type_of% @Cr∧type_of% @GZ∧type_of% @GY∧type_of% @Np∧type_of% @Nq∧type_of% @rF∧type_of% @qK∧type_of% @tO∧type_of% @rP∧type_of% @Jt∧type_of% @MT∧type_of% @uK∧type_of% @uL∧type_of% @HM∧type_of% @Hl∧type_of% @Mb∧type_of% @Ma∧type_of% @L9∧type_of% @JD∧type_of% @PH∧type_of% @MP∧type_of% @Qg∧type_of% @Qf∧type_of% @Qd∧type_of% @Qc∧type_of% @Qe∧type_of% @Qa∧type_of% @Ep∧type_of% @HH∧type_of% @HK∧type_of% @HI∧type_of% @F7∧type_of% @Er∧type_of% @C7∧type_of% @HJ∧type_of% @Bz∧type_of% @DZ∧type_of% @Nc∧type_of% @DW∧type_of% @D4∧type_of% @D3∧type_of% @P9∧type_of% @P5∧type_of% @vJ∧type_of% @beq_refl∧type_of% @zF∧type_of% @Qb∧type_of% @Py∧type_of% @NI∧type_of% @NH∧type_of% @NG∧type_of% @FP∧type_of% @IW∧type_of% @En∧type_of% @GO:=⟨@dt, @df, @Zn, @Sy, @Vh, @PQ, @wi, @wb, @CY, @Ey, @NQ, @yZ, @Qn, @xE, @xI, @xH, @xC, @H.j4, @H.lg, @H.mJ, @H.kg, @NJ, @zg, @MH, @MG, @J2, @EM, @Cr, @GZ, @GY, @Np, @Nq, @rF, @qK, @tO, @rP, @Jt, @MT, @uK, @uL, @HM, @Hl, @Mb, @Ma, @L9, @JD, @PH, @MP, @Qg, @Qf, @Qd, @Qc, @Qe, @Qa, @Ep, @HH, @HK, @HI, @F7, @Er, @C7, @HJ, @Bz, @DZ, @Nc, @DW, @D4, @D3, @P9, @P5, @vJ, @beq_refl, @zF, @Qb, @Py, @NI, @NH, @NG, @FP, @IW, @En, @GO⟩
theorem CF:type_of% @Dy∧type_of% @Dm∧type_of% @Dj∧type_of% @Hm∧type_of% @Ha∧type_of% @B9∧type_of% @LO∧type_of% @Nw∧type_of% @Nv∧type_of% @NF∧type_of% @P3∧type_of% @P1∧type_of% @P2∧type_of% @P4∧type_of% @Mf∧type_of% @Pw∧type_of% @Pt∧type_of% @Pv∧type_of% @Pu∧type_of% @Ky∧type_of% @yz∧type_of% @yD∧type_of% @CW∧type_of% @CV:=⟨@Dy, @Dm, @Dj, @Hm, @Ha, @B9, @LO, @Nw, @Nv, @NF, @P3, @P1, @P2, @P4, @Mf, @Pw, @Pt, @Pv, @Pu, @Ky, @yz, @yD, @CW, @CV⟩
theorem yP:type_of% @H.lg∧type_of% @H.kg∧type_of% @Hm∧type_of% @Dy∧type_of% @H.j4∧type_of% @H.mJ∧type_of% @Ha∧type_of% @Dj:=⟨@H.lg, @H.kg, @Hm, @Dy, @H.j4, @H.mJ, @Ha, @Dj⟩
theorem CB:type_of% @xE∧type_of% @xI∧type_of% @xH∧type_of% @xC∧type_of% @B9∧type_of% @Dm:=⟨@xE, @xI, @xH, @xC, @B9, @Dm⟩
end Ab
set_option maxRecDepth 100000
namespace Ab
open Go
theorem wrap_u32 {n:Nat} (h:n<4294967296):IntKind.wrap .u32 (n:Int)=n:=by
 have e:IntKind.wrap .u32 (n:Int)=(n:Int)%4294967296:=by simp [IntKind.wrap,IntKind.bits,IntKind.signed]
 rw[e];omega
theorem LZ (n:Int):IntKind.wrap .u32 n=n%4294967296:=by simp [IntKind.wrap,IntKind.bits,IntKind.signed]
theorem wu {n:Int} (h:0≤n∧n<4294967296):IntKind.wrap .u32 n=n:=by rw[LZ];omega
theorem Cp {a b:Nat} (ha:a<4294967296) (hb:b<4294967296):a^^^b<4294967296:=Nat.xor_lt_two_pow (n:=32) ha hb
theorem AY {a b:Nat} (ha:a<4294967296) (hb:b<4294967296):bits .xor .u32 (a:Int) (b:Int)=((a^^^b:Nat):Int):=by
 have h3:=Cp ha hb
 show IntKind.wrap .u32 (((BitVec.ofInt 32 (a:Int)^^^BitVec.ofInt 32 (b:Int)).toNat:Nat):Int)=_
 rw[BitVec.toNat_xor,Af 32 a (by omega),Af 32 b (by omega)]
 exact wrap_u32 h3
theorem EO {a:Nat} (ha:a<4294967296):bits .and .u32 (a:Int) 1=((a%2:Nat):Int):=by
 show IntKind.wrap .u32 (((BitVec.ofInt 32 (a:Int)&&&BitVec.ofInt 32 ((1:Nat):Int)).toNat:Nat):Int)=_
 rw[BitVec.toNat_and,Af 32 a (by omega),Af 32 1 (by omega),Nat.and_one_is_mod]
 exact wrap_u32 (by omega)
theorem KH {a:Nat} (ha:a<4294967296):qL .shr .u32 (a:Int) 1=some (.int .u32 ((a/2:Nat):Int)):=by
 unfold qL
 rw[if_neg (by omega)]
 have e:(2:Int)^min (Int.toNat 1) IntKind.u32.bits=2:=by decide
 rw[e]
 show some (AV.int .u32 _)=_
 rw[Int.fdiv_eq_ediv_of_nonneg _ (by omega)]
 rfl
theorem Hi {h:H} {a:Nat} (ha:a<4294967296):uN h (.int .u32 (a:Int))=some (.int .u32 ((4294967295-a:Nat):Int),h):=by
 rw[vM]
 have e:(if IntKind.u32.signed then-1 else IntKind.u32.max)=((4294967295:Nat):Int):=by decide
 rw[e,AY (by omega) ha]
 have h2:4294967295^^^a=4294967295-a:=by
  have h1:a<2^32:=by simpa using ha
  have:4294967295-a=2^32-(a+1):=by omega
  rw[this]
  apply Nat.eq_of_testBit_eq
  intro i
  rw[Nat.testBit_two_pow_sub_succ h1,Nat.testBit_xor,show 4294967295=2^32-1 from rfl,Nat.testBit_two_pow_sub_one]
  by_cases hi:i<32
  · simp [hi]
  · have:a.testBit i=false:=Nat.testBit_lt_two_pow (Nat.lt_of_lt_of_le h1 (abb (by omega) (by omega)))
    simp [hi,this]
 rw[h2]
def CM (c:Nat):Nat:=if c%2=1 then(c/2)^^^3988292384 else c/2
def Df:Nat→Nat→Nat
 |0,c=>c
 |n+1,c=>Df n (CM c)
def AN (c b:Nat):Nat:=Df 8 (c^^^b)
def Av (s:ByteArray):Nat→Nat→Nat→Nat
 |0,_,c=>c
 |n+1,i,c=>Av s n (i+1) (AN c (AU s i))
theorem DN {c:Nat} (h:c<4294967296):CM c<4294967296:=by
 unfold CM;split
 · exact Cp (by omega) (by omega)
 · omega
theorem EV:∀(n:Nat) {c:Nat},c<4294967296→Df n c<4294967296
 |0,_,h=>h
 |n+1,_,h=>EV n (DN h)
theorem BI {c b:Nat} (hc:c<4294967296) (hb:b<256):AN c b<4294967296:=EV 8 (Cp hc (by omega))
theorem DO (s:ByteArray):∀(n i:Nat) {c:Nat},c<4294967296→Av s n i c<4294967296
 |0,_,_,h=>h
 |n+1,i,_,h=>DO s n (i+1) (BI h (B7 s i))
theorem Gm (a b d:AV) (h:H):∀(n c k:Nat),k+n=8→c<4294967296→
 ∃e',Lp AP.A [1,5,12,13,22] AP.f103L0 [(1,a),(5,.int .u32 c),(12,b),(13,d),(22,.int .i64 k)] h=some (.exit 2,e',h)∧look e' 1=a∧look e' 5=.int .u32 (Df n c:Nat)∧look e' 12=b∧look e' 13=d
 | 0, c, k, hk, hc => by
   refine⟨[(1,a),(5,.int .u32 c),(12,b),(13,d),(22,.int .i64 k),(23,.bool false)],u6 ?_,rfl,rfl,rfl,rfl⟩
   simp (disch:=omega)only[go_sem,xF,AP.f103L0]
 | n + 1, c, k, hk, hc => by
   obtain⟨e',r1,r2,r3,r4,r5⟩:=Gm a b d h n (CM c) (k+1) (by omega) (DN hc)
   have n1:((k+1:Nat):Int)=(k:Int)+1:=by omega
   have x1:=AY (a:=c/2) (b:=3988292384) (by omega) (by omega)
   have a1:=EO hc
   have s1:=KH hc
   refine⟨e',u9 ?_ r1,r2,r3,r4,r5⟩
   rw[n1]
   unfold CM
   by_cases p:c%2=1
   · rw[if_pos p]
     rw[show((3988292384:Nat):Int)=3988292384 from rfl]at x1
     simp (disch:=omega)only[go_sem,xF,AP.f103L0,a1,s1,x1]
   · rw[if_neg p]
     simp (disch:=omega)only[go_sem,xF,AP.f103L0,a1,s1]
theorem Gp (s:ByteArray) (hs:s.size<1125899906842624) (h:H):∀(n i c:Nat),i+n=s.size→c<4294967296→
 ∃e',Lp AP.A [1,5,12,13] AP.f103L1 [(1,.str s),(5,.int .u32 c),(12,.int .i64 s.size),(13,.int .i64 i)] h=some (.exit 0,e',h)∧look e' 5=.int .u32 (Av s n i c:Nat)
 | 0, i, c, hi, hc => by
   refine⟨[(1,.str s),(5,.int .u32 c),(12,.int .i64 s.size),(13,.int .i64 i),(14,.bool false)],u6 ?_,rfl⟩
   simp (disch:=omega)only[go_sem,xF,AP.f103L1]
 | n + 1, i, c, hi, hc => by
   have hb:=B7 s i
   obtain⟨e',r1,r2⟩:=Gp s hs h n (i+1) (AN c (AU s i)) (by omega) (BI hc hb)
   obtain⟨e1,q1,q2,q3,q4,q5⟩:=Gm (.str s) (.int .i64 s.size) (.int .i64 i) h 8 (c^^^AU s i) 0 rfl (Cp hc (by omega))
   have q1':Lp AP.A [1,5,12,13,22] AP.f103L0 [(1,.str s),(5,.int .u32 (c^^^AU s i:Nat)),(12,.int .i64 s.size),(13,.int .i64 i),(22,.int .i64 0)] h=some (.exit 2,e1,h):=q1
   clear q1
   have x1:=AY hc (show AU s i<4294967296 by omega)
   have n1:((i+1:Nat):Int)=(i:Int)+1:=by omega
   refine⟨e',u9 ?_ r1,r2⟩
   rw[n1]
   unfold AN
   simp (disch:=omega)only[go_sem,xF,AP.f103L1,wu,x1,uo,q1',q2,q3,q4,q5]
def zC (a:Nat) (s:ByteArray):Nat:=4294967295-Av s s.size 0 (4294967295-a)
theorem Fb (a:Nat) (s:ByteArray):zC a s<4294967296:=by unfold zC;omega
theorem Ju (h:H) (s:ByteArray) (a:Nat) (ha:a<4294967296) (hs:s.size<1125899906842624):aU AP.A 103 [.int .i64 a,.str s] h=some (.int .i64 (zC a s:Nat),h):=by
 obtain⟨e',r1,r2⟩:=Gp s hs h.eO s.size 0 (4294967295-a) (by omega) (by omega)
 have r1':Lp AP.A [1,5,12,13] AP.f103L1 [(1,.str s),(5,.int .u32 (4294967295-a:Nat)),(12,.int .i64 s.size),(13,.int .i64 0)] h.eO=some (.exit 0,e',h.eO):=r1
 clear r1
 have lt:=DO s s.size 0 (c:=4294967295-a) (by omega)
 have v1:∀g:H,uN g (.int .u32 (a:Int))=some (.int .u32 ((4294967295-a:Nat):Int),g):=fun g=>Hi ha
 have v2:∀g:H,uN g (.int .u32 (Av s s.size 0 (4294967295-a):Nat))=some (.int .u32 ((4294967295-Av s s.size 0 (4294967295-a):Nat):Int),g):=fun g=>Hi lt
 refine vP (fn:=AP.f103) (h2:=h.eO) (e:=[(4,.int .i64 (zC a s:Nat))]) rfl rfl rfl ?_ rfl rfl
 unfold zC
 simp (disch:=omega)only[go_sem,xF,AP.f103,wu,v1,v2,uo,r1',r2]
def Bp (x:Int):Bool:=decide (0≤x∧x≤4294967295)
theorem OE (h:H) (x:Int):aU AP.A 105 [.int .i64 x] h=some (.bool (Bp x),h):=by
 refine vP (fn:=AP.f105) (h2:=h.eO) (e:=[(2,.bool (Bp x))]) rfl rfl rfl ?_ rfl rfl
 unfold Bp
 by_cases c1:0≤x
 · by_cases c2:x≤4294967295
   · simp (disch:=omega)only[go_sem,xF,AP.f105]
   · simp (disch:=omega)only[go_sem,xF,AP.f105]
 · simp (disch:=omega)only[go_sem,xF,AP.f105]
def zT (s:ByteArray):Nat:=zC 0 s
theorem Iv (h:H) (s:ByteArray) (hs:s.size<1125899906842624):aU AP.A 115 [.str s] h=some (.int .i64 (zT s:Nat),h):=by
 have k1:=Ju h.eO s 0 (by omega) hs
 have k1':aU AP.A 103 [.int .i64 0,.str s] h.eO=some (.int .i64 (zT s:Nat),h.eO):=k1
 refine vP (fn:=AP.f115) (h2:=h.eO) (e:=[(2,.int .i64 (zT s:Nat))]) rfl rfl rfl ?_ rfl rfl
 simp (disch:=omega)only[go_sem,xF,AP.f115,k1']
theorem GP (a d:AV) (h:H):∀(n c k:Nat),k+n=8→c<4294967296→
 ∃e',Lp AP.A [0,1,5,6] AP.f111L0 [(0,.int .u32 c),(1,a),(5,d),(6,.int .i64 k)] h=some (.exit 2,e',h)∧look e' 1=a∧look e' 0=.int .u32 (Df n c:Nat)∧look e' 5=d
 | 0, c, k, hk, hc => by
   refine⟨[(0,.int .u32 c),(1,a),(5,d),(6,.int .i64 k),(20,.bool false)],u6 ?_,rfl,rfl,rfl⟩
   simp (disch:=omega)only[go_sem,xF,AP.f111L0]
 | n + 1, c, k, hk, hc => by
   obtain⟨e',r1,r2,r3,r4⟩:=GP a d h n (CM c) (k+1) (by omega) (DN hc)
   have n1:((k+1:Nat):Int)=(k:Int)+1:=by omega
   have x1:=AY (a:=c/2) (b:=3988292384) (by omega) (by omega)
   have a1:=EO hc
   have s1:=KH hc
   refine⟨e',u9 ?_ r1,r2,r3,r4⟩
   rw[n1]
   unfold CM
   by_cases p:c%2=1
   · rw[if_pos p]
     rw[show((3988292384:Nat):Int)=3988292384 from rfl]at x1
     simp (disch:=omega)only[go_sem,xF,AP.f111L0,a1,s1,x1]
   · rw[if_neg p]
     simp (disch:=omega)only[go_sem,xF,AP.f111L0,a1,s1]
theorem GQ (s:ByteArray) (hs:s.size<1125899906842624) (h:H):∀(n i c:Nat),i+n=s.size→c<4294967296→
 ∃e',Lp AP.A [0,1,5] AP.f111L1 [(0,.int .u32 c),(1,.str s),(5,.int .i64 i)] h=some (.exit 0,e',h)∧look e' 0=.int .u32 (Av s n i c:Nat)
 | 0, i, c, hi, hc => by
   refine⟨[(0,.int .u32 c),(1,.str s),(5,.int .i64 i),(10,.bool false)],u6 ?_,rfl⟩
   simp (disch:=omega)only[go_sem,xF,AP.f111L1]
 | n + 1, i, c, hi, hc => by
   have hb:=B7 s i
   obtain⟨e',r1,r2⟩:=GQ s hs h n (i+1) (AN c (AU s i)) (by omega) (BI hc hb)
   obtain⟨e1,q1,q2,q3,q4⟩:=GP (.str s) (.int .i64 i) h 8 (c^^^AU s i) 0 rfl (Cp hc (by omega))
   have q1':Lp AP.A [0,1,5,6] AP.f111L0 [(0,.int .u32 (c^^^AU s i:Nat)),(1,.str s),(5,.int .i64 i),(6,.int .i64 0)] h=some (.exit 2,e1,h):=q1
   clear q1
   have x1:=AY hc (show AU s i<4294967296 by omega)
   have n1:((i+1:Nat):Int)=(i:Int)+1:=by omega
   refine⟨e',u9 ?_ r1,r2⟩
   rw[n1]
   unfold AN
   simp (disch:=omega)only[go_sem,xF,AP.f111L1,wu,x1,uo,q1',q2,q3,q4]
theorem VF (h:H) (s:ByteArray) (c:Nat) (hc:c<4294967296) (hs:s.size<1125899906842624):aU AP.A 111 [.int .u32 c,.str s] h=some (.int .u32 (Av s s.size 0 c:Nat),h):=by
 obtain⟨e',r1,r2⟩:=GQ s hs h.eO s.size 0 c (by omega) hc
 have r1':Lp AP.A [0,1,5] AP.f111L1 [(0,.int .u32 c),(1,.str s),(5,.int .i64 0)] h.eO=some (.exit 0,e',h.eO):=r1
 clear r1
 refine vP (fn:=AP.f111) (h2:=h.eO) (e:=[(4,.int .u32 (Av s s.size 0 c:Nat))]) rfl rfl rfl ?_ rfl rfl
 simp (disch:=omega)only[go_sem,xF,AP.f111,uo,r1',r2]
theorem EU (h:H) (s:ByteArray) (hs:s.size<1125899906842624):aU AP.A 101 [.str s] h=some (.int .i64 (zT s:Nat),h):=by
 have k1:=VF h.eO s 4294967295 (by omega) hs
 have k1':aU AP.A 111 [.int .u32 4294967295,.str s] h.eO=some (.int .u32 (Av s s.size 0 4294967295:Nat),h.eO):=k1
 have lt:=DO s s.size 0 (c:=4294967295) (by omega)
 have v2:∀g:H,uN g (.int .u32 (Av s s.size 0 4294967295:Nat))=some (.int .u32 (zT s:Nat),g):=fun g=>Hi lt
 have lt2:=Fb 0 s
 unfold zT at v2 ⊢
 refine vP (fn:=AP.f101) (h2:=h.eO) (e:=[(2,.int .i64 (zC 0 s:Nat))]) rfl rfl rfl ?_ rfl rfl
 simp (disch:=omega)only[go_sem,xF,AP.f101,k1',v2]
theorem IP {a s:Nat} (hs:s≤64):qL .shr .i64 (a:Int) (s:Int)=some (.int .i64 ((a/2^s:Nat):Int)):=by
 unfold qL
 rw[if_neg (by omega)]
 simp only[IntKind.bits,abq,Nat.min_eq_left hs]
 rw[Int.fdiv_eq_ediv_of_nonneg _ (Int.pow_nonneg (by omega))]
 simp
theorem I6 (n:Nat):IntKind.wrap .u8 (n:Int)=((n%256:Nat):Int):=by rw[N0];omega
def Ik (x i:Nat):Nat:=x/2^(8* i)%256
def ya (x k:Nat):List Nat:=(List.range k).map (Ik x)
theorem Gy (x k:Nat):ya x (k+1)=ya x k++[Ik x k]:=by simp [ya,List.range_succ]
theorem xR (x k:Nat):(ya x k).length=k:=by simp [ya]
def F0 (x k:Nat):ByteArray:=bytesOf (ya x k)
theorem HG {h:H} {v:AV} {k:Nat} {l:List Nat} (o:x8 1 h v k (Bl l)):vH h v (aV h 1 v)=some (.str (bytesOf l),h):=by
 rw[o.rd.1]
 simp only[vH,wP,GX]
 rcases o.2 with ⟨rfl,_⟩|⟨id,rfl,_⟩<;>rfl
theorem BF (a b:List Nat):Bl (a++b)=Bl a++Bl b:=by simp [Bl]
theorem ER (x:Nat) (k:Nat) (hk:k≤8):∀(m i:Nat) (h:H) (ov:AV),i+m=k→x8 1 h ov i (Bl (ya x i))→h.floor≤h.next→
 ∃e' h' ov',Lp AP.A [0,1,5,6] AP.f161L0 [(0,.int .i64 x),(1,.int .i64 k),(5,ov),(6,.int .i64 i)] h=some (.exit 0,e',h')∧look e' 5=ov'∧x8 1 h' ov' k (Bl (ya x k))
 | 0, i, h, ov, hi, o, hf => by
   obtain rfl:i=k:=by omega
   refine⟨[(0,.int .i64 x),(1,.int .i64 i),(5,ov),(6,.int .i64 i),(9,.bool false)],h,ov,u6 ?_,rfl,o⟩
   simp (disch:=omega)only[go_sem,xF,AP.f161L0]
 | m + 1, i, h, ov, hi, o, hf => by
   obtain⟨v',h',p1,p2,p3,p4,p5,p6⟩:=o.push hf (z:=1) (m:=1) (by omega) (by omega) (Bl [Ik x i]) rfl rfl (by simp [roomy];omega)
   rw[←BF,←Gy]at p2
   obtain⟨e',h2,ov',r1,r2,r3⟩:=ER x k hk m (i+1) h' v' (by omega) p2 (by omega)
   have n1:((i+1:Nat):Int)=(i:Int)+1:=by omega
   have n2:(8:Int)* (i:Int)=((8* i:Nat):Int):=by omega
   have s1:=IP (a:=x) (s:=8* i) (by omega)
   have w1:=I6 (x/2^(8* i))
   simp only[Bl,aa5,abn,Ik]at p1
   refine⟨e',h2,ov',u9 ?_ r1,r2,r3⟩
   rw[n1]
   simp (disch:=omega)only[go_sem,xF,AP.f161L0,n2,s1,w1,p1]
theorem C9 (h:H) (x k:Nat) (hk:k≤8):aU AP.A 161 [.int .i64 x,.int .i64 k] h=some (.str (F0 x k),h):=by
 obtain⟨e',h',ov',r1,r2,r3⟩:=ER x k hk k 0 h.eO .aS (by omega) (by simpa [ya,Bl]using x8.nil) (by simp)
 have r1':Lp AP.A [0,1,5,6] AP.f161L0 [(0,.int .i64 x),(1,.int .i64 k),(5,.aS),(6,.int .i64 0)] h.eO=some (.exit 0,e',h'):=r1
 clear r1
 have b:=HG r3
 refine vP (fn:=AP.f161) (h2:=h') (e:=[(4,.str (F0 x k))]) rfl rfl rfl ?_ rfl rfl
 unfold F0
 simp (disch:=omega)only[go_sem,xF,AP.f161,uo,r1',r2,b]
theorem Il (x k id:Nat) (hk:k≤8):∀(m i:Nat) (h:H),i+m=k→h.get id=some (Bl (ya x i++List.replicate m 0))→h.floor≤id→
 ∃e' h',Lp AP.A [0,5,10,11] AP.f104L0 [(0,.int .i64 x),(5,.aH id 0 k 1),(10,.int .i64 k),(11,.int .i64 i)] h=some (.exit 0,e',h')∧look e' 5=.aH id 0 k 1∧h'.get id=some (Bl (ya x k))∧h'.floor=h.floor
 | 0, i, h, hi, hg, hf => by
   obtain rfl:i=k:=by omega
   refine⟨[(0,.int .i64 x),(5,.aH id 0 i 1),(10,.int .i64 i),(11,.int .i64 i),(12,.bool false)],h,u6 ?_,rfl,by simpa using hg,rfl⟩
   simp (disch:=omega)only[go_sem,xF,AP.f104L0]
 | m + 1, i, h, hi, hg, hf => by
   have g2:(h.set id (Bl (ya x (i+1)++List.replicate m 0))).get id=some (Bl (ya x (i+1)++List.replicate m 0)):=by rw[xH rfl,hg];rfl
   obtain⟨e',h',r1,r2,r3,r4⟩:=Il x k id hk m (i+1) _ (by omega) g2 (by simpa using hf)
   have n1:((i+1:Nat):Int)=(i:Int)+1:=by omega
   have n2:(8:Int)* (i:Int)=((8* i:Nat):Int):=by omega
   have s1:=IP (a:=x) (s:=8* i) (by omega)
   have w1:=I6 (x/2^(8* i))
   have st:vR h id i 1 [.int .u8 ((x/2^(8* i)%256:Nat):Int)] (some (Bl (ya x i++List.replicate (m+1) 0)))=some (h.set id (Bl (ya x (i+1)++List.replicate m 0))):=by
    rw[wx hf (by simp [xR]) rfl]
    congr 2
    rw[Gy,BF,BF,BF,List.set_append_right _ _ (by simp [xR]),List.append_assoc]
    simp [xR,Bl,List.replicate_succ,Ik]
   refine⟨e',h',u9 ?_ r1,r2,r3,by rw[r4];simp⟩
   rw[n1]
   simp (disch:=omega)only[go_sem,xF,AP.f104L0,n2,s1,w1,hg,st]
theorem CE (h:H) (x k:Nat) (hk:k≤8) (hk0:0<k):aU AP.A 104 [.int .i64 x,.int .i64 k] h=some (.str (F0 x k),h):=by
 obtain⟨h1,eh1⟩:∃g,g=h.eO.alloc (GH k [.int .u8 0]):=⟨_,rfl⟩
 have hz:GH k [.int .u8 0]=Bl (ya x 0++List.replicate k 0):=by
  unfold GH;rw[Hs];simp [Bl,ya]
 have g1:h1.get h.next=some (Bl (ya x 0++List.replicate k 0)):=by rw[eh1,xE (by simp),hz]
 obtain⟨e',h',r1,r2,r3,r4⟩:=Il x k h.next hk k 0 h1 (by omega) g1 (by rw[eh1];simp)
 have r1':Lp AP.A [0,5,10,11] AP.f104L0 [(0,.int .i64 x),(5,.aH h.next 0 k 1),(10,.int .i64 k),(11,.int .i64 0)] h1=some (.exit 0,e',h'):=r1
 clear r1
 have o:x8 1 h' (.aH h.next 0 k 1) k (Bl (ya x k)):=⟨by simp [xR],.inr ⟨h.next,rfl,r3,by rw[r4,eh1];simp,hk0⟩⟩
 have b:=HG o
 have hn:h.eO.next=h.next:=rfl
 refine vP (fn:=AP.f104) (h2:=h') (e:=[(4,.str (F0 x k))]) rfl rfl rfl ?_ rfl rfl
 unfold F0
 simp (disch:=omega)only[go_sem,xF,AP.f104,uo,hn,←eh1,r1',r2,b]
theorem VQ {k:IntKind} {i:Int} {n:Nat} (h:0≤i∧i<n):dC (.int k i) n=some i.toNat:=by simp [dC,pc,h]
def okB (b:Nat):Bool:=decide (97≤b∧b≤122∨48≤b∧b≤57∨b=46∨b=45∨b=95)
def Aq (s:ByteArray):Nat→Nat→Bool
 |0,_=>false
 |n+1,i=>decide (i=AU s n)||Aq s n i
def OT:ByteArray:=⟨#[97,98,99,100,101,102,103,104,105,106,107,108,109,110,111,112,113,114,115,116,117,118,119,120,121,122,48,49,50,51,52,53,54,55,56,57,46,45,95]⟩
def bT (P:Nat→Bool):List AV:=oV 256 fun i=>.bool (P i)
theorem CH (P:Nat→Bool):(bT P).length=256:=by simp [bT]
theorem Qo (P:Nat→Bool) {i:Nat} (h:i<256):(bT P)[i]?=some (.bool (P i)):=gX h
theorem Qq (s:ByteArray) (n:Nat):(bT (Aq s n)).set (AU s n) (.bool true)=bT (Aq s (n+1)):=by
 unfold bT
 rw[vB (B7 s n)]
 congr 1
 funext i
 have e:Aq s (n+1) i=(decide (i=AU s n)||Aq s n i):=rfl
 rw[e]
 unfold vT
 by_cases h:i=AU s n
 · simp [h]
 · simp [h]
theorem VT:bT (Aq OT 39)=bT okB:=by
 unfold bT oV
 refine List.map_congr_left fun i hi=> ?_
 have hi':i<256:=List.mem_range.1 hi
 have:∀i,i<256→Aq OT 39 i=okB i:=by decide+kernel
 rw[this i hi']
theorem Fl (g:Nat→Option (List AV)) (fl n:Nat) (t:Bool):∀l:List Bool,gH (snap g fl (n+1) t) (l.map .bool)=some (l.map .bool)
 |[]=>rfl
 | b :: l => by
   have:=Fl g fl n t l
   simp only[aa5,gH,this];rfl
theorem OM (g:Nat→Option (List AV)) (fl n:Nat) (t:Bool) (P:Nat→Bool):gH (snap g fl (n+1) t) (bT P)=some (bT P):=by
 have e:bT P=((List.range 256).map P).map .bool:=by unfold bT oV;rw[abw];rfl
 rw[e];exact Fl g fl n t _
theorem Mi (e:Env):bg e (.alloc [.bool false,.bool false,.bool false,.bool false,.bool false,.bool false,.bool false,.bool false,.bool false,.bool false,.bool false,.bool false,.bool false,.bool false,.bool false,.bool false,.bool false,.bool false,.bool false,.bool false,.bool false,.bool false,.bool false,.bool false,.bool false,.bool false,.bool false,.bool false,.bool false,.bool false,.bool false,.bool false,.bool false,.bool false,.bool false,.bool false,.bool false,.bool false,.bool false,.bool false,.bool false,.bool false,.bool false,.bool false,.bool false,.bool false,.bool false,.bool false,.bool false,.bool false,.bool false,.bool false,.bool false,.bool false,.bool false,.bool false,.bool false,.bool false,.bool false,.bool false,.bool false,.bool false,.bool false,.bool false,.bool false,.bool false,.bool false,.bool false,.bool false,.bool false,.bool false,.bool false,.bool false,.bool false,.bool false,.bool false,.bool false,.bool false,.bool false,.bool false,.bool false,.bool false,.bool false,.bool false,.bool false,.bool false,.bool false,.bool false,.bool false,.bool false,.bool false,.bool false,.bool false,.bool false,.bool false,.bool false,.bool false,.bool false,.bool false,.bool false,.bool false,.bool false,.bool false,.bool false,.bool false,.bool false,.bool false,.bool false,.bool false,.bool false,.bool false,.bool false,.bool false,.bool false,.bool false,.bool false,.bool false,.bool false,.bool false,.bool false,.bool false,.bool false,.bool false,.bool false,.bool false,.bool false,.bool false,.bool false,.bool false,.bool false,.bool false,.bool false,.bool false,.bool false,.bool false,.bool false,.bool false,.bool false,.bool false,.bool false,.bool false,.bool false,.bool false,.bool false,.bool false,.bool false,.bool false,.bool false,.bool false,.bool false,.bool false,.bool false,.bool false,.bool false,.bool false,.bool false,.bool false,.bool false,.bool false,.bool false,.bool false,.bool false,.bool false,.bool false,.bool false,.bool false,.bool false,.bool false,.bool false,.bool false,.bool false,.bool false,.bool false,.bool false,.bool false,.bool false,.bool false,.bool false,.bool false,.bool false,.bool false,.bool false,.bool false,.bool false,.bool false,.bool false,.bool false,.bool false,.bool false,.bool false,.bool false,.bool false,.bool false,.bool false,.bool false,.bool false,.bool false,.bool false,.bool false,.bool false,.bool false,.bool false,.bool false,.bool false,.bool false,.bool false,.bool false,.bool false,.bool false,.bool false,.bool false,.bool false,.bool false,.bool false,.bool false,.bool false,.bool false,.bool false,.bool false,.bool false,.bool false,.bool false,.bool false,.bool false,.bool false,.bool false,.bool false,.bool false,.bool false,.bool false,.bool false,.bool false,.bool false,.bool false,.bool false,.bool false,.bool false,.bool false,.bool false,.bool false,.bool false,.bool false,.bool false,.bool false,.bool false,.bool false,.bool false,.bool false,.bool false,.bool false,.bool false,.bool false,.bool false,.bool false,.bool false,.bool false])=some (bT fun _=>false,fun i=>.aG i 0):=rfl
theorem Kk (s:ByteArray) (hs:s.size<100000) (h7:∀i,i<s.size→AU s i<128) (id:Nat):∀(m n:Nat) (h:H),n+m=s.size→h.get id=some (bT (Aq s n))→h.floor≤id→
 ∃e' h',Lp AP.A [0,2,4] AP.f127L0 [(0,.str s),(2,.aG id 0),(4,.int .i64 n)] h=some (.exit 0,e',h')∧look e' 2=.aG id 0∧h'.get id=some (bT (Aq s s.size))∧h'.floor=h.floor
 | 0, n, h, hn, hg, hf => by
   obtain rfl:n=s.size:=by omega
   refine⟨[(0,.str s),(2,.aG id 0),(4,.int .i64 s.size),(9,.bool false)],h,u6 ?_,rfl,hg,rfl⟩
   simp (disch:=omega)only[go_sem,xF,AP.f127L0]
 | m + 1, n, h, hn, hg, hf => by
   have g2:(h.set id (bT (Aq s (n+1)))).get id=some (bT (Aq s (n+1))):=by rw[xH rfl,hg];rfl
   obtain⟨e',h',r1,r2,r3,r4⟩:=Kk s hs h7 id m (n+1) _ (by omega) g2 (by simpa using hf)
   have n1:((n+1:Nat):Int)=(n:Int)+1:=by omega
   have hb:=B7 s n
   have hb7:=h7 n (by omega)
   have ia:dC (.int .u8 (AU s n:Nat)) 256=some (AU s n):=by rw[VQ (by omega)];rfl
   have st:vR h id (AU s n) 1 [.bool true] (some (bT (Aq s n)))=some (h.set id (bT (Aq s (n+1)))):=by rw[wx hf (by rw[CH];exact hb) rfl,Qq]
   refine⟨e',h',u9 ?_ r1,r2,r3,by rw[r4];simp⟩
   rw[n1]
   generalize bT (Aq s n)=T at *
   generalize bT (Aq s (n+1))=T2 at *
   simp (disch:=omega)only[go_sem,xF,AP.f127L0,ia,hg,st]
theorem yl {h:H} {id n:Nat} {v cs:List AV} (hf:h.floor≤id) (hv:v.length=n) (hc:cs.length=n) (hs:AV.aE v=true):vR h id 0 n v (some cs)=some (h.set id v):=by
 rw[NJ]
 have e:setFrom cs 0 v=v:=by
  have:=AJ cs v [] [] (by omega)
  simpa using this
 simp [hf,hv,hc,hs,e,zI]
theorem Px (P:Nat→Bool):AV.aE (bT P)=true:=by
 have e:bT P=((List.range 256).map P).map .bool:=by unfold bT oV;rw[abw];rfl
 rw[e]
 generalize (List.range 256).map P=l
 induction l with
 |nil=>rfl
 |cons b l ih=>simp [ih]
theorem Vq (P:Nat→Bool):iO true 256 (bT P) 0=some (.agg (bT P)):=by
 simp only[iO,if_true]
 rw[if_pos (by rw[CH];omega),aa8,xj (by rw[CH];omega)]
theorem OQ (h:H) (s:ByteArray) (hs:s.size<100000) (h7:∀i,i<s.size→AU s i<128):aU AP.A 127 [.str s] h=some (.bW [.agg (bT (Aq s s.size)),.bool true],h):=by
 obtain⟨h1,eh1⟩:∃g,g=h.eO.alloc (bT fun _=>false):=⟨_,rfl⟩
 have g1:h1.get h.next=some (bT (Aq s 0)):=by rw[eh1,xE (by simp)];rfl
 obtain⟨e',h',r1,r2,r3,r4⟩:=Kk s hs h7 h.next s.size 0 h1 (by omega) g1 (by rw[eh1];simp)
 have r1':Lp AP.A [0,2,4] AP.f127L0 [(0,.str s),(2,.aG h.next 0),(4,.int .i64 0)] h1=some (.exit 0,e',h'):=r1
 clear r1
 obtain⟨h2,eh2⟩:∃g,g=h'.set h.next (bT (Aq s s.size)):=⟨_,rfl⟩
 have st:vR h' h.next 0 256 (bT (Aq s s.size)) (some (bT (Aq s s.size)))=some h2:=by
  rw[yl (by rw[r4,eh1];simp) (CH _) (CH _) (Px _),eh2]
 have g2:h2.get h.next=some (bT (Aq s s.size)):=by rw[eh2,xH rfl,r3];rfl
 have hn:h.eO.next=h.next:=rfl
 have rd:=Vq (Aq s s.size)
 refine vP (fn:=AP.f127) (h2:=h2) (e:=[(2,.aG h.next 0),(3,.bool true)]) (vs:=[.agg (bT (Aq s s.size)),.bool true]) rfl rfl rfl ?_ ?_ ?_
 · generalize bT (Aq s s.size)=T at *
   simp (disch:=omega)only[go_sem,AP.f127,Mi,hn,←eh1,uo,r1',r2,r3,rd,st]
 · simp only[AP.f127,c9,oL,ou,sX,g2,uX,rd,mM,ne_eq,Nat.reduceEqDiff,not_false_eq_true]
   rfl
 · show(gH (snap h2.get h.next 15 true) [.agg (bT (Aq s s.size)),.bool true]).bind _=_
   have m1:snap h2.get h.next 15 true (.agg (bT (Aq s s.size)))=some (.agg (bT (Aq s s.size))):=by
    unfold snap;rw[OM];rfl
   simp only[gH,m1];rfl
theorem PJ (h:H) (id b:Nat) (P:Nat→Bool) (hg:h.get id=some (bT P)) (hb:b<256):aU AP.A 132 [.aG id 0,.int .u8 b] h=some (.bool (P b),h):=by
 have ia:dC (.int .u8 b) 256=some b:=by rw[VQ (by omega)];congr 1
 have g:=Qo P hb
 refine vv (fn:=AP.f132) (h2:=h) (e:=[(4,.bool (P b))]) (vs:=[.bool (P b)]) rfl rfl rfl ?_ rfl
 generalize bT P=T at *
 simp (disch:=omega)only[go_sem,xF,AP.f132,ia,hg,g]
theorem Mg {s:ByteArray} {n:Nat} (hn:n≤s.size):pd (.str s) none (some (.int .i64 n))=some (.str (s.extract 0 n)):=N9 hn
theorem Oa {s:ByteArray} {n:Nat} (hn:n≤s.size):pd (.str s) (some (.int .i64 n)) none=some (.str (s.extract n s.size)):=by
 have:lD (.int .i64 n) s.size=some n:=IM hn
 simp [pd,aD,this]
theorem Et {s:ByteArray} {a b i:Nat} (hb:b≤s.size) (hi:a+i<b):AU (s.extract a b) i=AU s (a+i):=by
 have e:(s.extract a b)[i]?=s[a+i]?:=by
  show(s.extract a b).data[i]?=s.data[a+i]?
  rw[ByteArray.data_extract,Array.getElem?_extract]
  have:s.data.size=s.size:=rfl
  rw[if_pos (by omega)]
 unfold AU;rw[e]
theorem DD {s:ByteArray} {a b:Nat} (hb:b≤s.size):(s.extract a b).size=b-a:=by simp [ByteArray.size_extract];omega
theorem J1 (s:ByteArray):s.extract 0 s.size=s:=by
 apply ByteArray.ext
 rw[ByteArray.data_extract]
 exact Array.extract_size
theorem Oq (s:ByteArray) {n m:Nat} (hm:m≤n):(s.extract 0 n).extract 0 m=s.extract 0 m:=by
 apply ByteArray.ext
 rw[ByteArray.data_extract,ByteArray.data_extract,ByteArray.data_extract,Array.extract_extract]
 simp [hm]
theorem FH (id : Nat) (P : Nat → Bool) (h : H) (hg : h.get id = some (bT P)) : ∀ (n : Nat) (s : ByteArray), s.size = n → n < 100000 →
 ∃e' m,Lp AP.A [0,1] AP.f129L0 [(0,.str s),(1,.aG id 0)] h=some (.exit 0,e',h)∧look e' 0=.str (s.extract 0 m)∧m≤s.size∧(∀i,m≤i→i<s.size→P (AU s i)=true)∧(0<m→P (AU s (m-1))=false)
 | 0, s, hs, hn => by
   refine⟨[(0,.str s),(1,.aG id 0),(7,.bool false)],0,u6 ?_, ?_,by omega,fun i h1 h2=>by omega,fun q=>by omega⟩
   · simp (disch:=omega)only[go_sem,xF,AP.f129L0]
   · show AV.str s=_
     congr 1
     have:=J1 s
     rw[hs]at this
     exact this.symm
 | n + 1, s, hs, hn => by
   have hb:=B7 s n
   have k1:=PJ h id (AU s n) P hg hb
   have n1:(s.size:Int)-1=(n:Int):=by omega
   have sl:=Mg (s:=s) (n:=n) (by omega)
   by_cases c:P (AU s n)=true
   · rw [c] at k1
     obtain⟨e',m,r1,r2,r3,r4,r5⟩:=FH id P h hg n (s.extract 0 n) (by rw[DD (by omega)];omega) (by omega)
     rw[DD (by omega)]at r3 r4
     refine⟨e',m,u9 ?_ r1, ?_,by omega,fun i h1 h2=> ?_,fun q=> ?_⟩
     · simp (disch:=omega)only[go_sem,xF,AP.f129L0,n1,k1,sl]
     · rw[r2];congr 1;exact Oq s r3
     · by_cases hi:i=n
       · rw[hi];exact c
       · have:=r4 i h1 (by omega)
         rwa [Et (by omega) (by omega),wY]at this
     · have:=r5 q
       rwa [Et (by omega) (by omega),wY]at this
   · have c':P (AU s n)=false:=by simpa using c
     rw[c']at k1
     refine⟨[(0,.str s),(1,.aG id 0),(15,.bool true)],s.size,u6 ?_, ?_,wU _,fun i h1 h2=>by omega,fun q=>by rw[hs];exact c'⟩
     · simp (disch:=omega)only[go_sem,xF,AP.f129L0,n1,k1]
     · show AV.str s=_
       congr 1
       exact(J1 s).symm
theorem Sz (s:ByteArray) {n:Nat} (h:s.size=n+1):(s.extract 1 s.size).size=n:=by rw[DD (wU _)];omega
theorem Gq (id : Nat) (P : Nat → Bool) (h : H) (hg : h.get id = some (bT P)) : ∀ (n : Nat) (s : ByteArray), s.size = n → n < 100000 → (0 < n → P (AU s (n - 1)) = false) →
 ∃e' r,Lp AP.A [0,1] AP.f128L0 [(0,.str s),(1,.aG id 0)] h=some (.exit 0,e',h)∧look e' 0=.str r∧(r.size=0↔n=0)
 | 0, s, hs, hn, hp => by
   refine⟨[(0,.str s),(1,.aG id 0),(7,.bool false)],s,u6 ?_,rfl,by omega⟩
   simp (disch:=omega)only[go_sem,xF,AP.f128L0]
 | n + 1, s, hs, hn, hp => by
   have hb:=B7 s 0
   have k1:=PJ h id (AU s 0) P hg hb
   have sl:pd (.str s) (some (.int .i64 1)) none=some (.str (s.extract 1 s.size)):=Oa (s:=s) (n:=1) (by omega)
   have ix:nH (.str s) (.int .i64 0)=some (.int .u8 (AU s 0:Nat)):=Ey (by omega)
   by_cases c:P (AU s 0)=true
   · rw[c]at k1
     have hn0:n≠0:=fun e=>by subst e;have:=hp (by omega);simp only[wY,Nat.sub_self]at this;rw[c]at this;cases this
     obtain⟨e',r,r1,r2,r3⟩:=Gq id P h hg n (s.extract 1 s.size) (Sz s hs) (by omega) (fun q=>by
      rw[Et (wU _) (by omega),show 1+(n-1)=n+1-1 by omega];exact hp (by omega))
     refine⟨e',r,u9 ?_ r1,r2,by omega⟩
     clear hp
     simp (disch:=omega)only[go_sem,dt,df,CY,AP.f128L0,k1,sl,ix,aaY,abc]
   · have c':P (AU s 0)=false:=by simpa using c
     rw[c']at k1
     refine⟨[(0,.str s),(1,.aG id 0),(12,.bool true)],s,u6 ?_,rfl,by omega⟩
     clear hp
     simp (disch:=omega)only[go_sem,dt,df,CY,AP.f128L0,k1,sl,ix,aaY,abc]
def CZ (s:ByteArray):Bool:=(List.range s.size).all fun i=>okB (AU s i)
theorem Fu:OT.size=39:=rfl
theorem Qp:bT (Aq OT OT.size)=bT okB:=VT
theorem Zh (h:H) (s:ByteArray) (id:Nat) (P:Nat→Bool) (hg:h.get id=some (bT P)) (hs:s.size<100000) (hp:0<s.size→P (AU s (s.size-1))=false):∃r,aU AP.A 128 [.str s,.aG id 0] h=some (.str r,h)∧(r.size=0↔s.size=0):=by
 obtain⟨e',r,r1,r2,r3⟩:=Gq id P h hg s.size s rfl hs hp
 refine⟨r,vv (fn:=AP.f128) (h2:=h) (e:=[(4,.str r)]) (vs:=[.str r]) rfl rfl rfl ?_ rfl,r3⟩
 clear hp
 simp only[go_sem,AP.f128,uo,r1,r2]
theorem Zi (h:H) (s:ByteArray) (id:Nat) (P:Nat→Bool) (hg:h.get id=some (bT P)) (hs:s.size<100000):
 ∃m,aU AP.A 129 [.str s,.aG id 0] h=some (.str (s.extract 0 m),h)∧m≤s.size∧(∀i,m≤i→i<s.size→P (AU s i)=true)∧(0<m→P (AU s (m-1))=false):=by
 obtain⟨e',m,r1,r2,r3,r4,r5⟩:=FH id P h hg s.size s rfl hs
 refine⟨m,vv (fn:=AP.f129) (h2:=h) (e:=[(4,.str (s.extract 0 m))]) (vs:=[.str (s.extract 0 m)]) rfl rfl rfl ?_ rfl,r3,r4,r5⟩
 simp only[go_sem,AP.f129,uo,r1,r2]
theorem Hx {a b:ByteArray} (h:a≠b):(a.data.toList==b.data.toList)=false:=by
 rw[beq_eq_false_iff_ne]
 intro e
 apply h
 apply ByteArray.ext
 exact Array.toList_inj.1 e
theorem IY (a:ByteArray):(a.data.toList==a.data.toList)=true:=by simp
theorem VE (h : H) (s : ByteArray) (h0 : 0 < s.size) (hs : s.size < 100000) : ∃ r, aU AP.A 124 [.str s, .str OT] h = some (.str r, h) ∧ (r.size = 0 ↔ CZ s = true) := by
 have m1:=OQ h.eO OT (by rw[Fu];omega) (by rw[Fu];decide+kernel)
 rw[Qp]at m1
 obtain⟨h1,eh1⟩:∃g,g=h.eO.alloc (bT fun _=>false):=⟨_,rfl⟩
 have hn:h.eO.next=h.next:=rfl
 have g1:h1.get h.next=some (bT fun _=>false):=by rw[eh1,xE (by simp)]
 obtain⟨h2,eh2⟩:∃g,g=h1.set h.next (bT okB):=⟨_,rfl⟩
 have st:vR h1 h.next 0 256 (bT okB) (some (bT fun _=>false))=some h2:=by
  rw[yl (by rw[eh1];simp) (CH _) (CH _) (Px _),eh2]
 have g2:h2.get h.next=some (bT okB):=by rw[eh2,xH rfl,g1];rfl
 obtain⟨m,a1,a2,a3,a4⟩:=Zi h2 s h.next okB g2 hs
 have sz:=DD (s:=s) (a:=0) (b:=m) a2
 obtain⟨r,b1,b2⟩:=Zh h2 (s.extract 0 m) h.next okB g2 (by omega) (fun q=>by
  rw[sz,Nat.sub_zero,Et a2 (by omega),wY];exact a4 (by omega))
 refine⟨r, ?_, ?_⟩
 · have e1:bC .eql (.str s) (.str ⟨#[]⟩)=some (.bool false):=by
    rw[AR,Hx];intro e;rw[e]at h0;exact absurd h0 (by decide)
   have e2:bC .eql (.str OT) (.str ⟨#[]⟩)=some (.bool false):=by
    rw[AR,Hx];intro e;have:=Fu;rw[e]at this;exact absurd this (by decide)
   have l2:jQ true (.str OT)=some (.int .i64 39):=rfl
   refine vP (fn:=AP.f124) (h2:=h2) (e:=[(4,.str r)]) rfl rfl rfl ?_ rfl rfl
   clear a3 a4
   generalize bT okB=T at *
   generalize hT:(bT fun _=>false)=T0 at *
   have ba:∀e:Env,bg e (.alloc [.bool false,.bool false,.bool false,.bool false,.bool false,.bool false,.bool false,.bool false,.bool false,.bool false,.bool false,.bool false,.bool false,.bool false,.bool false,.bool false,.bool false,.bool false,.bool false,.bool false,.bool false,.bool false,.bool false,.bool false,.bool false,.bool false,.bool false,.bool false,.bool false,.bool false,.bool false,.bool false,.bool false,.bool false,.bool false,.bool false,.bool false,.bool false,.bool false,.bool false,.bool false,.bool false,.bool false,.bool false,.bool false,.bool false,.bool false,.bool false,.bool false,.bool false,.bool false,.bool false,.bool false,.bool false,.bool false,.bool false,.bool false,.bool false,.bool false,.bool false,.bool false,.bool false,.bool false,.bool false,.bool false,.bool false,.bool false,.bool false,.bool false,.bool false,.bool false,.bool false,.bool false,.bool false,.bool false,.bool false,.bool false,.bool false,.bool false,.bool false,.bool false,.bool false,.bool false,.bool false,.bool false,.bool false,.bool false,.bool false,.bool false,.bool false,.bool false,.bool false,.bool false,.bool false,.bool false,.bool false,.bool false,.bool false,.bool false,.bool false,.bool false,.bool false,.bool false,.bool false,.bool false,.bool false,.bool false,.bool false,.bool false,.bool false,.bool false,.bool false,.bool false,.bool false,.bool false,.bool false,.bool false,.bool false,.bool false,.bool false,.bool false,.bool false,.bool false,.bool false,.bool false,.bool false,.bool false,.bool false,.bool false,.bool false,.bool false,.bool false,.bool false,.bool false,.bool false,.bool false,.bool false,.bool false,.bool false,.bool false,.bool false,.bool false,.bool false,.bool false,.bool false,.bool false,.bool false,.bool false,.bool false,.bool false,.bool false,.bool false,.bool false,.bool false,.bool false,.bool false,.bool false,.bool false,.bool false,.bool false,.bool false,.bool false,.bool false,.bool false,.bool false,.bool false,.bool false,.bool false,.bool false,.bool false,.bool false,.bool false,.bool false,.bool false,.bool false,.bool false,.bool false,.bool false,.bool false,.bool false,.bool false,.bool false,.bool false,.bool false,.bool false,.bool false,.bool false,.bool false,.bool false,.bool false,.bool false,.bool false,.bool false,.bool false,.bool false,.bool false,.bool false,.bool false,.bool false,.bool false,.bool false,.bool false,.bool false,.bool false,.bool false,.bool false,.bool false,.bool false,.bool false,.bool false,.bool false,.bool false,.bool false,.bool false,.bool false,.bool false,.bool false,.bool false,.bool false,.bool false,.bool false,.bool false,.bool false,.bool false,.bool false,.bool false,.bool false,.bool false,.bool false,.bool false,.bool false,.bool false,.bool false,.bool false,.bool false,.bool false,.bool false,.bool false,.bool false,.bool false,.bool false,.bool false,.bool false,.bool false,.bool false,.bool false,.bool false,.bool false,.bool false,.bool false,.bool false,.bool false,.bool false,.bool false,.bool false,.bool false])=some (T0,fun i=>.aG i 0):=fun e=>by rw[Mi,hT]
   simp (disch:=omega)only[go_sem,AP.f124,ba,hn,←eh1,e1,e2,l2,Sy,m1,g1,st,a1,b1]
 · rw [b2, sz]
   unfold CZ
   rw[aba]
   constructor
   · intro q i hi
     exact a3 i (by omega) (List.mem_range.1 hi)
   · intro q
     by_cases hm:m=0
     · omega
     · have:=a4 (by omega)
       rw[q (m-1) (List.mem_range.2 (by omega))]at this
       cases this
def MD:ByteArray:=⟨#[46]⟩
def HX:ByteArray:=⟨#[46,46]⟩
def yI (s:ByteArray):Bool:=decide (1≤s.size)&&(decide (s.size≤8)&&(CZ s&&(!(s.data.toList==MD.data.toList)&& !(s.data.toList==HX.data.toList))))
theorem M8 (h : H) (s : ByteArray) (hs : s.size < 1125899906842624) : aU AP.A 121 [.str s] h = some (.bool (yI s), h) := by
 refine vP (fn:=AP.f121) (h2:=h.eO) (e:=[(2,.bool (yI s))]) rfl rfl rfl ?_ rfl rfl
 unfold yI
 by_cases c1:1≤s.size
 · by_cases c2:s.size≤8
   · obtain⟨r,t1,t2⟩:=VE h.eO s (by omega) (by omega)
     have t1':aU AP.A 124 [.str s,.str ⟨#[97,98,99,100,101,102,103,104,105,106,107,108,109,110,111,112,113,114,115,116,117,118,119,120,121,122,48,49,50,51,52,53,54,55,56,57,46,45,95]⟩] h.eO=some (.str r,h.eO):=t1
     have e1:bC .eql (.str r) (.str ⟨#[]⟩)=some (.bool (CZ s)):=by
      rw[AR]
      by_cases q:CZ s=true
      · rw[q]
        have:r=⟨#[]⟩:=by
         apply ByteArray.ext
         exact Array.size_eq_zero_iff.1 (t2.2 q)
        rw[this,IY]
      · have q':CZ s=false:=by simpa using q
        rw[q',Hx]
        intro e
        rw[e]at t2
        exact q (t2.1 rfl)
     have e2:bC .neq (.str s) (.str ⟨#[46]⟩)=some (.bool (!(s.data.toList==MD.data.toList))):=BV _ _
     have e3:bC .neq (.str s) (.str ⟨#[46,46]⟩)=some (.bool (!(s.data.toList==HX.data.toList))):=BV _ _
     clear t1 t2
     generalize (!(s.data.toList==MD.data.toList))=B2 at *
     generalize (!(s.data.toList==HX.data.toList))=B3 at *
     generalize CZ s=B1 at *
     cases B1<;>cases B2<;>cases B3<;>simp (disch:=omega)only[go_sem,xF,AP.f121,t1',e1,e2,e3]
   · simp (disch:=omega)only[go_sem,xF,AP.f121]
 · simp (disch:=omega)only[go_sem,xF,AP.f121]
theorem Ko (b:Nat):okB b=true↔97≤b∧b≤122∨48≤b∧b≤57∨b=46∨b=45∨b=95:=by simp [okB]
def Az (s:ByteArray):Nat→Nat→Bool
 |0,_=>true
 |n+1,i=>okB (AU s i)&&Az s n (i+1)
theorem EJ (s:ByteArray):∀n i,Az s n i=(List.range n).all fun j=>okB (AU s (i+j))
 |0,_=>rfl
 | n + 1, i => by
   rw[Az,EJ s n (i+1),List.range_succ_eq_map,abE,List.all_map]
   simp only[abl]
   congr 1
   refine abt (fun f=>(List.range n).all f) ?_
   funext j
   simp only[Function.comp,Nat.succ_eq_add_one]
   rw[show i+(j+1)=i+1+j by omega]
theorem Km (s : ByteArray) (hs : s.size < 100000) (h : H) : ∀ (n i : Nat), i + n = s.size →
 (∃e',Lp AP.A [0,3] AP.f173L0 [(0,.str s),(3,.int .i64 i)] h=some (.exit 0,e',h)∧Az s n i=true)∨
 (∃e',Lp AP.A [0,3] AP.f173L0 [(0,.str s),(3,.int .i64 i)] h=some (.ret,e',h)∧look e' 2=.bool false∧Az s n i=false)
 | 0, i, hi => by
   left
   refine⟨[(0,.str s),(3,.int .i64 i),(24,.bool false)],u6 ?_,rfl⟩
   simp (disch:=omega)only[go_sem,xF,AP.f173L0]
 | n + 1, i, hi => by
   have hb:=B7 s i
   have n1:((i+1:Nat):Int)=(i:Int)+1:=by omega
   have ix:nH (.str s) (.int .i64 i)=some (.int .u8 (AU s i:Nat)):=by rw[Ey (by omega),yZ]
   by_cases c:okB (AU s i)=true
   · have e:Az s (n+1) i=Az s n (i+1):=by simp [Az,c]
     rw[e]
     have ih:=Km s hs h n (i+1) (by omega)
     rw[Ko]at c
     generalize AU s i=b at *
     have step:aO (aU AP.A) bH AP.f173L0 (ay [(0,.str s),(3,.int .i64 i)] [0,3]) h=some (.normal,[(0,.str s),(3,.int .i64 ((i:Int)+1))],h):=by
      clear ih e
      rcases c with c|c|c|c|c
      · simp (disch:=omega)only[go_sem,xF,AP.f173L0,ix]
      · simp (disch:=omega)only[go_sem,xF,AP.f173L0,ix]
      · simp (disch:=omega)only[go_sem,xF,AP.f173L0,ix]
      · simp (disch:=omega)only[go_sem,xF,AP.f173L0,ix]
      · simp (disch:=omega)only[go_sem,xF,AP.f173L0,ix]
     rw[n1]at ih
     rcases ih with ⟨e',r1,r2⟩|⟨e',r1,r2,r3⟩
     · exact .inl ⟨e',u9 step r1,r2⟩
     · exact .inr ⟨e',u9 step r1,r2,r3⟩
   · right
     refine⟨[(2,.bool false)],vF ?_,rfl,by simp [Az,c]⟩
     rw[Ko]at c
     generalize AU s i=b at *
     have c1:¬(97≤b∧b≤122):=by omega
     have c2:¬(48≤b∧b≤57):=by omega
     have c3:¬b=46:=by omega
     have c4:¬b=45:=by omega
     have c5:¬b=95:=by omega
     clear c
     by_cases d1:b<97
     · by_cases d2:b<48
       · clear c1 c2;simp (disch:=omega)only[go_sem,xF,AP.f173L0,ix]
       · have:57<b:=by omega
         clear c1 c2;simp (disch:=omega)only[go_sem,xF,AP.f173L0,ix]
     · have:122<b:=by omega
       have d2:¬b<48:=by omega
       clear c1 c2;simp (disch:=omega)only[go_sem,xF,AP.f173L0,ix]
theorem OS (h : H) (s : ByteArray) (hs : s.size < 1125899906842624) : aU AP.A 173 [.str s] h = some (.bool (yI s), h) := by
 have e2:bC .eql (.str s) (.str ⟨#[46]⟩)=some (.bool (s.data.toList==MD.data.toList)):=AR _ _
 have e3:bC .eql (.str s) (.str ⟨#[46,46]⟩)=some (.bool (s.data.toList==HX.data.toList)):=AR _ _
 unfold yI
 generalize (s.data.toList==MD.data.toList)=B2 at *
 generalize (s.data.toList==HX.data.toList)=B3 at *
 by_cases c1:s.size<1
 · refine vP (fn:=AP.f173) (h2:=h.eO) (e:=[(2,.bool false)]) rfl rfl rfl ?_ rfl (by rw[aaU (show¬1≤s.size by omega)];rfl)
   simp (disch:=omega)only[go_sem,xF,AP.f173]
 by_cases c2:8<s.size
 · refine vP (fn:=AP.f173) (h2:=h.eO) (e:=[(2,.bool false)]) rfl rfl rfl ?_ rfl (by rw[aaU (show¬s.size≤8 by omega),aa4,aa9];rfl)
   simp (disch:=omega)only[go_sem,xF,AP.f173]
 rw[aaW (show 1≤s.size by omega),aaW (show s.size≤8 by omega),aa3,aa3]
 cases B2 with
 | true =>
   refine vP (fn:=AP.f173) (h2:=h.eO) (e:=[(2,.bool false)]) rfl rfl rfl ?_ rfl (by rw[Bool.not_true,aa4,aa9];rfl)
   simp (disch:=omega)only[go_sem,xF,AP.f173,e2]
 | false =>
   cases B3 with
   | true =>
     refine vP (fn:=AP.f173) (h2:=h.eO) (e:=[(2,.bool false)]) rfl rfl rfl ?_ rfl (by rw[Bool.not_true,aa9,aa9];rfl)
     simp (disch:=omega)only[go_sem,xF,AP.f173,e2,e3]
   | false =>
     have ea:CZ s=Az s s.size 0:=by rw[EJ];simp [CZ]
     rw[ea]
     rcases Km s (by omega) h.eO s.size 0 (by omega)with ⟨e',r1,r2⟩|⟨e',r1,r2,r3⟩
     · have r1':Lp AP.A [0,3] AP.f173L0 [(0,.str s),(3,.int .i64 0)] h.eO=some (.exit 0,e',h.eO):=r1
       clear r1
       rw[r2]
       refine vP (fn:=AP.f173) (h2:=h.eO) (e:=[(2,.bool true)]) rfl rfl rfl ?_ rfl rfl
       simp (disch:=omega)only[go_sem,xF,AP.f173,e2,e3,uo,r1']
     · have r1':Lp AP.A [0,3] AP.f173L0 [(0,.str s),(3,.int .i64 0)] h.eO=some (.ret,e',h.eO):=r1
       clear r1
       rw[r3]
       refine vP (fn:=AP.f173) (h2:=h.eO) (e:=e') (vs:=[.bool false]) rfl rfl rfl ?_ (by simp only[AP.f173,c9,oL,r2];rfl) rfl
       simp (disch:=omega)only[go_sem,xF,AP.f173,e2,e3,uo,r1']
structure Tok where
 lit:Int
 len:Int
 EX:Int
deriving DecidableEq
def Ext (h g:H):Prop:=∀id c,h.get id=some c→g.get id=some c
theorem Ext.refl (h:H):Ext h h:=fun _ _ q=>q
theorem Ext.trans {a b c:H} (x:Ext a b) (y:Ext b c):Ext a c:=fun i d q=>y i d (x i d q)
theorem Ext.alloc {a h:H} (x:Ext a h) (cs:List AV):Ext a (h.alloc cs):=fun i d q=>by
 have:=h.lt _ _ (x i d q)
 rw[H.aZ,if_neg (by omega)];exact x i d q
theorem Ext.set {a h:H} (x:Ext a h) {id:Nat} (hid:a.next≤id) (cs:List AV):Ext a (h.set id cs):=fun i d q=>by
 have:=a.lt _ _ q
 rw[H.dY,if_neg (by omega)];exact x i d q
def Pm (size:Int) (t:Tok):Option Int:=
 if t.len=0 then(if t.lit<0∨255<t.lit∨t.EX≠0 then none else some (size+1))
 else if t.len<3∨258<t.len∨t.EX<1∨32768<t.EX∨size<t.EX∨t.lit≠0 then none else some (size+t.len)
def I4 : Int → List Tok → Bool
 |_,[]=>true
 | s, t :: r => match Pm s t with
   |none=>false
   |some s'=>if 8192<s' then false else I4 s' r
def zo (n:Int):Bool:=decide (0≤n)&&decide (n≤1048576)
theorem JR (h:H) (n:Int):aU AP.A 119 [.int .i64 n] h=some (.bool (zo n),h):=by
 refine vP (fn:=AP.f119) (h2:=h.eO) (e:=[(2,.bool (zo n))]) rfl rfl rfl ?_ rfl rfl
 unfold zo
 by_cases c1:0≤n<;>by_cases c2:n≤1048576<;>simp (disch:=omega)only[go_sem,xF,AP.f119]
def yY (n:Int):Bool:=decide (0≤n)&&decide (n<4)
theorem Fs (h:H) (n:Int):aU AP.A 120 [.int .i64 n] h=some (.bool (yY n),h):=by
 refine vP (fn:=AP.f120) (h2:=h.eO) (e:=[(2,.bool (yY n))]) rfl rfl rfl ?_ rfl rfl
 unfold yY
 by_cases c1:0≤n<;>by_cases c2:n<4<;>simp (disch:=omega)only[go_sem,xF,AP.f120]
def KM (v:AV):Bool:=match v with| .int .i64 n=> !zo n|_=>false
theorem LU (h:H) (n:Int):aU AP.A 123 [.int .i64 n] h=some (.bool (!zo n),h):=by
 have k1:=JR h.eO n
 refine vP (fn:=AP.f123) (h2:=h.eO) (e:=[(2,.bool (!zo n))]) rfl rfl rfl ?_ rfl rfl
 simp (disch:=omega)only[go_sem,xF,AP.f123,k1]
def yS (l:List Int):Bool:=decide (l.length=4)&&l.all zo
theorem Ed:∀l:List Int,(ints l).any KM= !l.all zo
 |[]=>rfl
 | n :: l => by
   have:=Ed l
   simp only[ints,aa5,List.any_cons,abE,Bool.not_and]at *
   rw[this];rfl
theorem KS (h:H) (v:AV) (l:List Int) (rd:Rd h v (ints l)) (hl:l.length<1125899906842624):aU AP.A 117 [v] h=some (.bool (yS l),h):=by
 have rd':=rd.mono (xY h)
 have ln:=rd'.len
 rw[rk]at ln
 simp only[I]at ln
 refine vP (fn:=AP.f117) (h2:=h.eO) (e:=[(2,.bool (yS l))]) rfl rfl rfl ?_ rfl rfl
 unfold yS
 by_cases c:l.length=4
 · have k1:=CL (fv:=.fn 123 [] []) KM (fun x hx g=>by
    obtain⟨n,hn,rfl⟩:=aa6.1 hx
    rw[po];exact LU g n) (by simp;omega) h.eO rd'
   rw[Ed]at k1
   have c':(l.length:Int)=4:=by omega
   simp (disch:=omega)only[go_sem,xF,AP.f117,ln,k1,Bool.not_not]
 · have c':¬(l.length:Int)=4:=by omega
   simp (disch:=omega)only[go_sem,xF,AP.f117,ln]
theorem Rd.yL {h:H} {v:AV} {l:List Int} (r:Rd h v (ints l)):∃ad:Int→AV,(∀i:Int,0≤i∧i<l.length→gZ 1 v (.int .i64 i)=some (ad i))∧
 ∀g:H,Ext h g→∀(i:Nat) (n:Int),l[i]?=some n→cf false 1 (ad i) g=some (.int .i64 n):=by
 have r2:=r.HB
 rw[rk]at r2
 obtain⟨ad,a1,_,_,a3⟩:=r2.at_
 refine⟨fun i=>ad i 0,a1,fun g hg i n hn=> ?_⟩
 have hi:i<l.length:=(wO.1 hn).1
 refine(a3 g hg).1 i 0 _ ⟨by omega,by omega⟩ ?_
 rw[yZ,abu,abl]
 exact uM hn
theorem KT {v:AV} {l:List Int} (hl:l.length<1125899906842624) (h:H) (rd:Rd h v (ints l)):∀(q p:List Int),l=p++q→
 (∃e',Lp AP.A [0,3] AP.f172L0 [(0,v),(3,.int .i64 p.length)] h=some (.exit 0,e',h)∧look e' 0=v∧q.all zo=true)∨
 (∃e',Lp AP.A [0,3] AP.f172L0 [(0,v),(3,.int .i64 p.length)] h=some (.ret,e',h)∧look e' 2=.bool false∧q.all zo=false)
 | [], p, hp => by
   left
   have ln:=rd.len
   rw[rk]at ln
   simp only[I]at ln
   rw[aa2]at hp;subst hp
   refine⟨[(0,v),(3,.int .i64 l.length),(7,.bool false)],u6 ?_,rfl,rfl⟩
   simp (disch:=omega)only[go_sem,xF,AP.f172L0,ln]
 | n :: q, p, hp => by
   have ln:=rd.len
   rw[rk]at ln
   simp only[I]at ln
   have hlen:l.length=p.length+(q.length+1):=by rw[hp];simp
   have hv:l[p.length]?=some n:=by rw[hp];simp
   obtain⟨ad,a1,a2⟩:=rd.yL
   have b1:=a1 p.length ⟨by omega,by omega⟩
   have b2:=a2 h (Ext.refl h) _ _ hv
   have w1:((p.length:Int)+1)=(((p++[n]).length:Nat):Int):=by simp
   have ih:=KT hl h rd q (p++[n]) (by rw[hp];simp)
   rw[←w1]at ih
   rw[abE]
   clear a1 a2
   by_cases c1:n<0
   · right
     refine⟨[(2,.bool false)],vF ?_,rfl,by simp [zo];omega⟩
     clear ih w1
     simp (disch:=omega)only[go_sem,xF,AP.f172L0,ln,b1,b2]
   by_cases c2:1048576<n
   · right
     refine⟨[(2,.bool false)],vF ?_,rfl,by simp [zo];omega⟩
     clear ih w1
     simp (disch:=omega)only[go_sem,xF,AP.f172L0,ln,b1,b2]
   have cn:zo n=true:=by simp [zo];omega
   rw[cn,aa3]
   have step:aO (aU AP.A) bH AP.f172L0 (ay [(0,v),(3,.int .i64 p.length)] [0,3]) h=some (.normal,[(0,v),(3,.int .i64 ((p.length:Int)+1))],h):=by
    clear ih w1
    simp (disch:=omega)only[go_sem,xF,AP.f172L0,ln,b1,b2]
   rcases ih with ⟨e',r1,r2,r3⟩|⟨e',r1,r2,r3⟩
   · exact .inl ⟨e',u9 step r1,r2,r3⟩
   · exact .inr ⟨e',u9 step r1,r2,r3⟩
theorem FX (h:H) (v:AV) (l:List Int) (rd:Rd h v (ints l)) (hl:l.length<1125899906842624):aU AP.A 172 [v] h=some (.bool (yS l),h):=by
 have rd':=rd.mono (xY h)
 have ln:=rd'.len
 rw[rk]at ln
 simp only[I]at ln
 unfold yS
 rcases KT hl h.eO rd' l [] rfl with ⟨e',r1,r2,r3⟩|⟨e',r1,r2,r3⟩
 · have r1':Lp AP.A [0,3] AP.f172L0 [(0,v),(3,.int .i64 0)] h.eO=some (.exit 0,e',h.eO):=r1
   clear r1
   rw[r3,abD]
   refine vP (fn:=AP.f172) (h2:=h.eO) (e:=[(2,.bool (decide (l.length=4)))]) rfl rfl rfl ?_ rfl rfl
   by_cases c:l.length=4
   · have c':(l.length:Int)=4:=by omega
     simp (disch:=omega)only[go_sem,xF,AP.f172,ln,uo,r1',r2]
   · have c':¬(l.length:Int)=4:=by omega
     simp (disch:=omega)only[go_sem,xF,AP.f172,ln,uo,r1',r2]
 · have r1':Lp AP.A [0,3] AP.f172L0 [(0,v),(3,.int .i64 0)] h.eO=some (.ret,e',h.eO):=r1
   clear r1
   rw[r3,aa9]
   refine vP (fn:=AP.f172) (h2:=h.eO) (e:=e') (vs:=[.bool false]) rfl rfl rfl ?_ (by simp only[AP.f172,c9,oL,r2];rfl) rfl
   simp (disch:=omega)only[go_sem,xF,AP.f172,ln,uo,r1',r2]
structure xP where
 name:ByteArray
 gone:Bool
 vec:List Int
 xL:Int
 node:Int
 method:Int
 packed:ByteArray
 size:Int
 Bd:Int
def xA (e:xP) (v:AV):List AV:=[.str e.name,.bool e.gone,v,.int .i64 e.xL,.int .i64 e.node,.int .i64 e.method,.str e.packed,.int .i64 e.size,.int .i64 e.Bd]
def yy (e:xP):Bool:=yS e.vec&&(decide (1≤e.xL)&&(zo e.xL&&yY e.node))
structure PE (h:H) (p:AV) (cs:List AV):Prop where
 nil:∀g:H,kh g p=some (p,g)
 vm:∃q:Nat→AV,(∀k,fZ k p=some (q k))∧∀g:H,Ext h g→∀(k:Nat) (c:AV),cs[k]?=some c→cf false 1 (q k) g=some c
theorem MR (h:H) (p v:AV) (e:xP) (pe:PE h p (xA e v)) (rd:Rd h v (ints e.vec)) (hl:e.vec.length<1125899906842624):aU AP.A 112 [p] h=some (.bool (yy e),h):=by
 have nl:=pe.nil
 obtain⟨q,f1,f2⟩:=pe.vm
 have l2:=f2 h (Ext.refl h) 2 v rfl
 have l3:=f2 h (Ext.refl h) 3 _ rfl
 have l4:=f2 h (Ext.refl h) 4 _ rfl
 have k1:=KS h v e.vec rd hl
 have k2:=JR h e.xL
 have k3:=Fs h e.node
 have c2:zo e.xL=true→1≤e.xL→True:=fun _ _=>trivial
 refine vv (fn:=AP.f112) (h2:=h) (e:=[(2,.bool (yy e))]) (vs:=[.bool (yy e)]) rfl rfl rfl ?_ rfl
 unfold yy
 clear pe f2 rd c2
 generalize yS e.vec=B1 at *
 generalize zo e.xL=B2 at *
 generalize yY e.node=B3 at *
 by_cases c1:1≤e.xL<;>cases B1<;>cases B2<;>cases B3<;>simp (disch:=omega)only[go_sem,xF,AP.f112,nl,f1,l2,l3,l4,k1,k2,k3]
theorem J5 (h : H) (v : AV) (e : xP) (rd : Rd h v (ints e.vec)) (hv : v.sc = true) (hl : e.vec.length < 1125899906842624) : aU AP.A 169 [.agg (xA e v)] h = some (.bool (yy e), h) := by
 have hx:Ext h.eO (h.eO.alloc (xA e v)):=(Ext.refl _).alloc _
 have k1:=FX (h.eO.alloc (xA e v)) v e.vec (rd.mono fun id c q=>hx id c q) hl
 have g1:(h.eO.alloc (xA e v)).get h.next=some (xA e v):=xE rfl
 have hn:h.eO.next=h.next:=rfl
 refine vP (fn:=AP.f169) (h2:=h.eO.alloc (xA e v)) (e:=[(2,.bool (yy e))]) rfl rfl rfl ?_ rfl rfl
 have hb:∀ev:Env,look ev 0=.agg (xA e v)→bg ev (.box 9 (.t 0))=some (xA e v,fun i=>.aG i 0):=by
  intro ev q
  simp only[bg,ur,q,mA]
  rw[if_pos ⟨rfl,by simp [xA,hv]⟩]
 obtain⟨h1,eh1⟩:∃g,g=h.eO.alloc (xA e v):=⟨_,rfl⟩
 rw[←eh1]at k1 g1 ⊢
 have hcnt:yy e=(yS e.vec&&(decide (1≤e.xL)&&(decide (e.xL≤1048576)&&(decide (0≤e.node)&&decide (e.node<4))))):=by
  unfold yy zo yY
  by_cases c1:1≤e.xL
  · rw[aaW (show 0≤e.xL by omega)];simp
  · simp [c1]
 rw[hcnt]
 clear hcnt rd hx
 generalize yS e.vec=B1 at *
 simp only[oI,oJ,AP.f169]
 rw[ua,tZ,uU,jJ,hb _ rfl]
 simp only[nQ,hn,←eh1]
 simp only[xA]at g1
 cases B1 with
 |false=>simp (disch:=omega)only[go_sem,xF,k1,g1]
 | true =>
   by_cases c1:1≤e.xL
   · by_cases c2:e.xL≤1048576
     · by_cases c3:0≤e.node
       · by_cases c4:e.node<4<;>simp (disch:=omega)only[go_sem,xF,k1,g1]
       · simp (disch:=omega)only[go_sem,xF,k1,g1]
     · simp (disch:=omega)only[go_sem,xF,k1,g1]
   · simp (disch:=omega)only[go_sem,xF,k1,g1]
def Fa (s:ByteArray):Bool:=s.data.toList==(⟨#[]⟩:ByteArray).data.toList
def zm (e:xP):Bool:=
 if e.gone then decide (e.method=0)&&(Fa e.packed&&(decide (e.size=0)&&decide (e.Bd=0)))
 else(decide (0≤e.size)&&(decide (e.size≤300)&&Bp e.Bd))&&(decide (e.method=0)&&decide ((e.packed.size:Int)=e.size)||decide (e.method=8)&&decide (e.packed.size≤300))
theorem K8 (h : H) (p v : AV) (e : xP) (pe : PE h p (xA e v)) : aU AP.A 122 [p] h = some (.bool (zm e), h) := by
 have nl:=pe.nil
 obtain⟨q,f1,f2⟩:=pe.vm
 have l1:=f2 h (Ext.refl h) 1 _ rfl
 have l5:=f2 h (Ext.refl h) 5 _ rfl
 have l6:=f2 h (Ext.refl h) 6 _ rfl
 have l7:=f2 h (Ext.refl h) 7 _ rfl
 have l8:=f2 h (Ext.refl h) 8 _ rfl
 have k1:=OE h e.Bd
 have e1:bC .eql (.str e.packed) (.str ⟨#[]⟩)=some (.bool (Fa e.packed)):=AR _ _
 refine vv (fn:=AP.f122) (h2:=h) (e:=[(2,.bool (zm e))]) (vs:=[.bool (zm e)]) rfl rfl rfl ?_ rfl
 unfold zm
 clear pe f2
 generalize Fa e.packed=B1 at *
 generalize Bp e.Bd=B2 at *
 cases hg:e.gone with
 | true =>
   rw[hg]at l1
   rw[if_pos rfl]
   by_cases c1:e.method=0
   · cases B1 with
     |false=>simp (disch:=omega)only[go_sem,xF,AP.f122,nl,f1,l1,l5,l6,l7,l8,e1]
     | true =>
       by_cases c2:e.size=0
       · by_cases c3:e.Bd=0<;>simp (disch:=omega)only[go_sem,xF,AP.f122,nl,f1,l1,l5,l6,l7,l8,e1]
       · simp (disch:=omega)only[go_sem,xF,AP.f122,nl,f1,l1,l5,l6,l7,l8,e1]
   · simp (disch:=omega)only[go_sem,xF,AP.f122,nl,f1,l1,l5,l6,l7,l8,e1]
 | false =>
   rw[hg]at l1
   rw[if_neg (by decide)]
   by_cases c1:e.method=0
   · have c1':¬e.method=8:=by omega
     by_cases c2:(e.packed.size:Int)=e.size
     · by_cases c3:0≤e.size
       · by_cases c4:e.size≤300
         · cases B2<;>simp (disch:=omega)only[go_sem,xF,AP.f122,nl,f1,l1,l5,l6,l7,l8,e1,k1]
         · simp (disch:=omega)only[go_sem,xF,AP.f122,nl,f1,l1,l5,l6,l7,l8,e1,k1]
       · exfalso;omega
     · simp (disch:=omega)only[go_sem,xF,AP.f122,nl,f1,l1,l5,l6,l7,l8,e1,k1]
   · by_cases c0:e.method=8
     · by_cases c2:e.packed.size≤300
       · by_cases c3:0≤e.size
         · by_cases c4:e.size≤300
           · cases B2<;>simp (disch:=omega)only[go_sem,xF,AP.f122,nl,f1,l1,l5,l6,l7,l8,e1,k1]
           · simp (disch:=omega)only[go_sem,xF,AP.f122,nl,f1,l1,l5,l6,l7,l8,e1,k1]
         · simp (disch:=omega)only[go_sem,xF,AP.f122,nl,f1,l1,l5,l6,l7,l8,e1,k1]
       · simp (disch:=omega)only[go_sem,xF,AP.f122,nl,f1,l1,l5,l6,l7,l8,e1,k1]
     · simp (disch:=omega)only[go_sem,xF,AP.f122,nl,f1,l1,l5,l6,l7,l8,e1,k1]
def zt (prev:Option xP) (e:xP):Bool:=yI e.name&&((match prev with|none=>true|some p=>Op.bytesLess p.name.toList e.name.toList)&&(yy e&&zm e))
theorem Dh (e:xP):zt none e=(yI e.name&&(yy e&&zm e)):=by simp [zt]
theorem Di (p e:xP):zt (some p) e=(yI e.name&&(Op.bytesLess p.name.toList e.name.toList&&(yy e&&zm e))):=rfl
def yC:Option xP→List xP→Bool
 |_,[]=>true
 |p,e::r=>zt p e&&yC (some e) r
abbrev xN:=xP×AV
def Jk (x:xN):List AV:=xA x.1 x.2
def xG (l:List xN):List AV:=l.flatMap Jk
theorem AB (x:xN):(Jk x).length=9:=rfl
theorem yQ (l:List xN):(xG l).length=l.length* 9:=Hb AB l
structure yF (h:H) (x:xN):Prop where
 vec:Rd h x.2 (ints x.1.vec)
 vl:x.1.vec.length<1125899906842624
 nl:x.1.name.size<1125899906842624
 pl:x.1.packed.size<1125899906842624
theorem yF.mono {h g:H} {x:xN} (o:yF h x) (e:Ext h g):yF g x:=⟨o.vec.mono fun i c q=>e i c q,o.vl,o.nl,o.pl⟩
theorem KY {v : AV} {l : List xN} (hn : l.length < 1125899906842624) (h : H) (b : Nat) (hb : h.get b = some [v]) (rd : yM 9 h v l.length (xG l)) (hv : ∀ x ∈ l, yF h x) : ∀ (q p : List xN), l = p ++ q →
 (∃e',Lp AP.A [1,7,8] AP.f113L0 [(1,.aG b 0),(7,.int .i64 l.length),(8,.int .i64 p.length)] h=some (.exit 0,e',h)∧look e' 1=.aG b 0∧yC (p.getLast?.map (·.1)) (q.map (·.1))=true)∨
 (∃e',Lp AP.A [1,7,8] AP.f113L0 [(1,.aG b 0),(7,.int .i64 l.length),(8,.int .i64 p.length)] h=some (.ret,e',h)∧look e' 2=.bool false∧yC (p.getLast?.map (·.1)) (q.map (·.1))=false)
 | [], p, hp => by
   left
   rw[aa2]at hp;subst hp
   refine⟨[(1,.aG b 0),(7,.int .i64 l.length),(8,.int .i64 l.length),(9,.bool false)],u6 ?_,rfl,rfl⟩
   simp (disch:=omega)only[go_sem,xF,AP.f113L0]
 | x :: q, p, hp => by
   have hlen:l.length=p.length+(q.length+1):=by rw[hp];simp
   have hx:l[p.length]?=some x:=by rw[hp];simp
   have ho:=hv x (by rw[hp];simp)
   obtain⟨ad,a1,a2,a4,a3⟩:=rd.at_
   have hI:(0:Int)≤(p.length:Int)∧(p.length:Int)<l.length:=⟨by omega,by omega⟩
   have b1:=a1 _ hI
   have pe:PE h (ad p.length 0) (xA x.1 x.2):=by
    refine⟨fun g=>a4 _ 0 g hI,fun k=>ad p.length (0+k),fun k=>a2 _ 0 k hI,fun g hg k c hc=> ?_⟩
    have hk:k<9:=(wO.1 hc).1
    refine(a3 g hg).1 _ _ _ hI ?_
    rw[yZ,wY,show xG l=l.flatMap Jk from rfl,Bm AB hx hk];exact hc
   have k1:=M8 h x.1.name ho.nl
   have k2:=MR h _ _ x.1 pe ho.vec ho.vl
   have k3:=K8 h _ _ x.1 pe
   have nl:=pe.nil
   obtain⟨qq,f1,f2⟩:=pe.vm
   have l0:=f2 h (Ext.refl h) 0 _ rfl
   have ih:=KY hn h b hb rd hv q (p++[x]) (by rw[hp];simp)
   have w1:(((p++[x]).length:Nat):Int)=(p.length:Int)+1:=by simp
   rw[w1,List.getLast?_concat]at ih
   have step : aO (aU AP.A) bH AP.f113L0 (ay [(1, .aG b 0), (7, .int .i64 l.length), (8, .int .i64 p.length)] [1, 7, 8]) h = if zt (p.getLast?.map (·.1)) x.1 then some (.normal, [(1, .aG b 0), (7, .int .i64 l.length), (8, .int .i64 ((p.length : Int) + 1))], h) else some (.ret, [(2, .bool false)], h) := by
    cases hl:p.getLast? with
    | none =>
      have hp0:p=[]:=List.getLast?_eq_none_iff.1 hl
      have hp1:p.length=0:=by rw[hp0];rfl
      clear ih w1 pe f2 a1 a2 a3 a4 hl hv hp ho hx
      rw[abc,Dh]
      generalize yI x.1.name=B1 at *
      generalize yy x.1=B3 at *
      generalize zm x.1=B4 at *
      cases B1 with
      | false =>
        rw[aa4,if_neg (by decide)]
        simp (disch:=omega)only[go_sem,xF,AP.f113L0,hb,b1,nl,f1,l0,k1,k2,k3]
      | true =>
        cases B3 with
        | false =>
          rw[aa4,aa9,if_neg (by decide)]
          simp (disch:=omega)only[go_sem,xF,AP.f113L0,hb,b1,nl,f1,l0,k1,k2,k3]
        | true =>
          cases B4 with
          | false =>
            rw[aa9,aa9,if_neg (by decide)]
            simp (disch:=omega)only[go_sem,xF,AP.f113L0,hb,b1,nl,f1,l0,k1,k2,k3]
          | true =>
            rw[abm,abm,if_pos rfl]
            simp (disch:=omega)only[go_sem,xF,AP.f113L0,hb,b1,nl,f1,l0,k1,k2,k3]
    | some y =>
      obtain⟨p',rfl⟩:∃p',p=p'++[y]:=List.getLast?_eq_some_iff.1 hl
      have hpl:(p'++[y]).length=p'.length+1:=by simp
      have hy:l[p'.length]?=some y:=by rw[hp];simp
      have hJ:(0:Int)≤(p'.length:Int)∧(p'.length:Int)<l.length:=⟨by omega,by omega⟩
      have bj:=a1 _ hJ
      have fj:=a2 _ 0 0 hJ
      have lj:=(a3 h (Ext.refl h)).1 p'.length (0+0) (.str y.1.name) hJ (by
       rw[yZ,show xG l=l.flatMap Jk from rfl,wY,Bm AB hy (by omega)];rfl)
      have cmp:bC .geq (.str y.1.name) (.str x.1.name)=some (.bool (!(Op.bytesLess y.1.name.toList x.1.name.toList))):=rfl
      have n2:(((p'++[y]).length:Nat):Int)-1=(p'.length:Int):=by rw[hpl];omega
      clear ih w1 pe f2 a1 a2 a3 a4 hl hv hp ho hx hy
      rw[aaY,Di]
      simp only[abl]at fj lj
      generalize Op.bytesLess y.1.name.toList x.1.name.toList=B2 at *
      generalize yI x.1.name=B1 at *
      generalize yy x.1=B3 at *
      generalize zm x.1=B4 at *
      generalize (p'++[y]).length=pl at *
      cases B1 with
      | false =>
        rw[aa4,if_neg (by decide)]
        simp (disch:=omega)only[go_sem,xF,AP.f113L0,hb,b1,nl,f1,l0,k1,k2,k3,bj,fj,lj,cmp,n2]
      | true =>
        cases B2 with
        | false =>
          rw[aa4,aa9,if_neg (by decide)]
          simp (disch:=omega)only[go_sem,xF,AP.f113L0,hb,b1,nl,f1,l0,k1,k2,k3,bj,fj,lj,cmp,n2]
        | true =>
          cases B3 with
          | false =>
            rw[aa4,aa9,aa9,if_neg (by decide)]
            simp (disch:=omega)only[go_sem,xF,AP.f113L0,hb,b1,nl,f1,l0,k1,k2,k3,bj,fj,lj,cmp,n2]
          | true =>
            cases B4 with
            | false =>
              rw[aa9,aa9,aa9,if_neg (by decide)]
              simp (disch:=omega)only[go_sem,xF,AP.f113L0,hb,b1,nl,f1,l0,k1,k2,k3,bj,fj,lj,cmp,n2]
            | true =>
              rw[abm,abm,abm,if_pos rfl]
              simp (disch:=omega)only[go_sem,xF,AP.f113L0,hb,b1,nl,f1,l0,k1,k2,k3,bj,fj,lj,cmp,n2]
   have hmay:yC (p.getLast?.map (·.1)) ((x::q).map (·.1))=(zt (p.getLast?.map (·.1)) x.1&&yC (some x.1) (q.map (·.1))):=rfl
   rw[hmay]
   by_cases hok:zt (p.getLast?.map (·.1)) x.1=true
   · rw[if_pos hok]at step
     rw[hok,aa3]
     rcases ih with ⟨e',r1,r2,r3⟩|⟨e',r1,r2,r3⟩
     · exact .inl ⟨e',u9 step r1,r2,r3⟩
     · exact .inr ⟨e',u9 step r1,r2,r3⟩
   · have hok':zt (p.getLast?.map (·.1)) x.1=false:=by simpa using hok
     rw[if_neg hok]at step
     rw[hok',aa4]
     exact .inr ⟨_,vF step,rfl,rfl⟩
def yK (l:List xP):Bool:=yC none l&&decide (l.length≤6)
theorem N2 (h:H) (v:AV) (l:List xN) (hvs:v.sc=true) (hn:l.length<1125899906842624) (rd:yM 9 h v l.length (xG l)) (hv:∀x∈l,yF h x):aU AP.A 113 [.agg [v]] h=some (.bool (yK (l.map (·.1))),h):=by
 obtain⟨h1,eh1⟩:∃g,g=h.eO.alloc [v]:=⟨_,rfl⟩
 have hx:Ext h.eO h1:=by rw[eh1];exact(Ext.refl _).alloc _
 have hx0:Ext h h1:=fun i c q=>hx i c q
 have hn0:h.eO.next=h.next:=rfl
 have g1:h1.get h.next=some [v]:=by rw[eh1];exact xE rfl
 have zK:=rd.mono fun i c q=>hx0 i c q
 have ln:=zK.len
 have hb:∀ev:Env,look ev 0=.agg [v]→bg ev (.box 1 (.t 0))=some ([v],fun i=>.aG i 0):=by
  intro ev q
  simp only[bg,ur,q,mA]
  rw[if_pos ⟨rfl,by simp [hvs]⟩]
 unfold yK
 rcases KY hn h1 h.next g1 zK (fun x hx=>(hv x hx).mono hx0) l [] rfl with ⟨e',r1,r2,r3⟩|⟨e',r1,r2,r3⟩
 · have r1':Lp AP.A [1,7,8] AP.f113L0 [(1,.aG h.next 0),(7,.int .i64 l.length),(8,.int .i64 0)] h1=some (.exit 0,e',h1):=r1
   clear r1
   have r3':yC none (l.map (·.1))=true:=r3
   rw[r3',aa3,aa0]
   refine vP (fn:=AP.f113) (h2:=h1) (e:=[(2,.bool (decide (l.length≤6)))]) rfl rfl rfl ?_ rfl rfl
   clear rd zK hv hx hx0 r3 r3'
   simp only[oI,oJ,AP.f113]
   rw[ua,tZ,uU,jJ,hb _ rfl]
   simp only[nQ,hn0,←eh1]
   by_cases c:l.length≤6
   · simp (disch:=omega)only[go_sem,xF,g1,ln,uo,r1',r2]
   · simp (disch:=omega)only[go_sem,xF,g1,ln,uo,r1',r2]
 · have r1':Lp AP.A [1,7,8] AP.f113L0 [(1,.aG h.next 0),(7,.int .i64 l.length),(8,.int .i64 0)] h1=some (.ret,e',h1):=r1
   clear r1
   have r3':yC none (l.map (·.1))=false:=r3
   rw[r3',aa4]
   refine vP (fn:=AP.f113) (h2:=h1) (e:=e') (vs:=[.bool false]) rfl rfl rfl ?_ (by simp only[AP.f113,c9,oL,r2];rfl) rfl
   clear rd zK hv hx hx0 r3 r3'
   simp only[oI,oJ,AP.f113]
   rw[ua,tZ,uU,jJ,hb _ rfl]
   simp only[nQ,hn0,←eh1]
   simp (disch:=omega)only[go_sem,xF,g1,ln,uo,r1']
def Ao (method : Int) (s : ByteArray) (size : Int) : Option ByteArray :=
 if size<0∨300<size then none
 else if method=0 then(if(s.size:Int)=size then some s else none)
 else if method=8 then(match Ai s size with
  | .ok (o,took)=>if(o.length:Int)=size∧took=s.size then some (bytesOf o)else none
  | .error _=>none)
 else none
theorem DJ {m : Int} {s : ByteArray} {z : Int} {t : ByteArray} (h : Ao m s z = some t) : (t.size : Int) = z ∧ 0 ≤ z ∧ z ≤ 300 := by
 unfold Ao at h
 split at h
 · cases h
 · rename_i q
   split at h
   · split at h
     · rename_i q2;obtain rfl:=wH h;omega
     · cases h
   · split at h
     · split at h
       · split at h
         · rename_i q2
           obtain rfl:=wH h
           rw[yq];omega
         · cases h
       · cases h
     · cases h
def LV:Option ByteArray→AV
 |some t=>.bW [.str t,.int .i64 0]
 |none=>.bW [.str ⟨#[]⟩,.int .i64 900]
theorem NV (h : H) (hf : h.floor ≤ h.next) (m : Int) (s : ByteArray) (z : Int) (hs : s.size < 1125899906842624) : aU AP.A 114 [.int .i64 m, .str s, .int .i64 z] h = some (LV (Ao m s z), h) := by
 unfold Ao
 by_cases c1:z<0
 · rw[if_pos (.inl c1)]
   refine vP (fn:=AP.f114) (h2:=h.eO) (e:=[(6,.str ⟨#[]⟩),(7,.int .i64 900)]) rfl rfl rfl ?_ rfl rfl
   simp (disch:=omega)only[go_sem,xF,AP.f114]
 by_cases c2:300<z
 · rw[if_pos (.inr c2)]
   refine vP (fn:=AP.f114) (h2:=h.eO) (e:=[(6,.str ⟨#[]⟩),(7,.int .i64 900)]) rfl rfl rfl ?_ rfl rfl
   simp (disch:=omega)only[go_sem,xF,AP.f114]
 rw[if_neg (by omega)]
 by_cases c3:m=0
 · rw[if_pos c3]
   by_cases c4:(s.size:Int)=z
   · rw[if_pos c4]
     refine vP (fn:=AP.f114) (h2:=h.eO) (e:=[(6,.str s),(7,.int .i64 0)]) rfl rfl rfl ?_ rfl rfl
     simp (disch:=omega)only[go_sem,xF,AP.f114]
   · rw[if_neg c4]
     refine vP (fn:=AP.f114) (h2:=h.eO) (e:=[(6,.str ⟨#[]⟩),(7,.int .i64 900)]) rfl rfl rfl ?_ rfl rfl
     simp (disch:=omega)only[go_sem,xF,AP.f114]
 rw[if_neg c3]
 by_cases c5:m=8
 · rw [if_pos c5]
   have k1:=Lr h.eO (by simp) s z hs
   simp only[I]at k1
   cases hi:Ai s z with
   | error k =>
     rw[hi]at k1
     simp only[Lq,I]at k1
     have hk:=Dq hi
     have hk':¬k=0:=by rcases hk with rfl|rfl<;>decide
     clear hk
     refine vP (fn:=AP.f114) (h2:=h.eO) (e:=[(6,.str ⟨#[]⟩),(7,.int .i64 900)]) rfl rfl rfl ?_ rfl rfl
     simp (disch:=omega)only[go_sem,xF,AP.f114,k1]
   | ok r =>
     obtain⟨o,took⟩:=r
     rw[hi]at k1
     simp only[Lq,I]at k1
     dsimp only
     have sz:=yq o
     by_cases c6:(o.length:Int)=z
     · by_cases c7:took=s.size
       · rw[if_pos ⟨c6,c7⟩]
         refine vP (fn:=AP.f114) (h2:=h.eO) (e:=[(6,.str (bytesOf o)),(7,.int .i64 0)]) rfl rfl rfl ?_ rfl rfl
         simp (disch:=omega)only[go_sem,xF,AP.f114,k1,sz]
       · rw[if_neg (fun q=>c7 q.2)]
         refine vP (fn:=AP.f114) (h2:=h.eO) (e:=[(6,.str ⟨#[]⟩),(7,.int .i64 900)]) rfl rfl rfl ?_ rfl rfl
         simp (disch:=omega)only[go_sem,xF,AP.f114,k1,sz]
     · rw[if_neg (fun q=>c6 q.1)]
       refine vP (fn:=AP.f114) (h2:=h.eO) (e:=[(6,.str ⟨#[]⟩),(7,.int .i64 900)]) rfl rfl rfl ?_ rfl rfl
       simp (disch:=omega)only[go_sem,xF,AP.f114,k1,sz]
 · rw[if_neg c5]
   refine vP (fn:=AP.f114) (h2:=h.eO) (e:=[(6,.str ⟨#[]⟩),(7,.int .i64 900)]) rfl rfl rfl ?_ rfl rfl
   simp (disch:=omega)only[go_sem,xF,AP.f114]
theorem LW (h : H) (m : Int) (s : ByteArray) (z : Int) (hs : s.size < 1125899906842624) : aU AP.A 164 [.int .i64 m, .str s, .int .i64 z] h = some (LV (Ao m s z), h) := by
 unfold Ao
 by_cases c1:z<0
 · rw[if_pos (.inl c1)]
   refine vP (fn:=AP.f164) (h2:=h.eO) (e:=[(6,.str ⟨#[]⟩),(7,.int .i64 900)]) rfl rfl rfl ?_ rfl rfl
   simp (disch:=omega)only[go_sem,xF,AP.f164]
 by_cases c2:300<z
 · rw[if_pos (.inr c2)]
   refine vP (fn:=AP.f164) (h2:=h.eO) (e:=[(6,.str ⟨#[]⟩),(7,.int .i64 900)]) rfl rfl rfl ?_ rfl rfl
   simp (disch:=omega)only[go_sem,xF,AP.f164]
 rw[if_neg (by omega)]
 by_cases c3:m=0
 · rw[if_pos c3]
   by_cases c4:(s.size:Int)=z
   · rw[if_pos c4]
     refine vP (fn:=AP.f164) (h2:=h.eO) (e:=[(6,.str s),(7,.int .i64 0)]) rfl rfl rfl ?_ rfl rfl
     simp (disch:=omega)only[go_sem,xF,AP.f164]
   · rw[if_neg c4]
     refine vP (fn:=AP.f164) (h2:=h.eO) (e:=[(6,.str ⟨#[]⟩),(7,.int .i64 900)]) rfl rfl rfl ?_ rfl rfl
     simp (disch:=omega)only[go_sem,xF,AP.f164]
 rw[if_neg c3]
 by_cases c5:m=8
 · rw [if_pos c5]
   have k1:=Jm h.eO s z hs
   simp only[I]at k1
   cases hi:Ai s z with
   | error k =>
     rw[hi]at k1
     simp only[Lq,I]at k1
     have hk:=Dq hi
     have hk':¬k=0:=by rcases hk with rfl|rfl<;>decide
     clear hk
     refine vP (fn:=AP.f164) (h2:=h.eO) (e:=[(6,.str ⟨#[]⟩),(7,.int .i64 900)]) rfl rfl rfl ?_ rfl rfl
     simp (disch:=omega)only[go_sem,xF,AP.f164,k1]
   | ok r =>
     obtain⟨o,took⟩:=r
     rw[hi]at k1
     simp only[Lq,I]at k1
     dsimp only
     have sz:=yq o
     by_cases c6:(o.length:Int)=z
     · by_cases c7:took=s.size
       · rw[if_pos ⟨c6,c7⟩]
         refine vP (fn:=AP.f164) (h2:=h.eO) (e:=[(6,.str (bytesOf o)),(7,.int .i64 0)]) rfl rfl rfl ?_ rfl rfl
         simp (disch:=omega)only[go_sem,xF,AP.f164,k1,sz]
       · rw[if_neg (fun q=>c7 q.2)]
         refine vP (fn:=AP.f164) (h2:=h.eO) (e:=[(6,.str ⟨#[]⟩),(7,.int .i64 900)]) rfl rfl rfl ?_ rfl rfl
         simp (disch:=omega)only[go_sem,xF,AP.f164,k1,sz]
     · rw[if_neg (fun q=>c6 q.1)]
       refine vP (fn:=AP.f164) (h2:=h.eO) (e:=[(6,.str ⟨#[]⟩),(7,.int .i64 900)]) rfl rfl rfl ?_ rfl rfl
       simp (disch:=omega)only[go_sem,xF,AP.f164,k1,sz]
 · rw[if_neg c5]
   refine vP (fn:=AP.f164) (h2:=h.eO) (e:=[(6,.str ⟨#[]⟩),(7,.int .i64 900)]) rfl rfl rfl ?_ rfl rfl
   simp (disch:=omega)only[go_sem,xF,AP.f164]
def AA (e : xP) : Option ByteArray :=
 if yK [e]=false then none
 else if e.gone then some ⟨#[]⟩
 else match Ao e.method e.packed e.size with
  |some t=>if(zT t:Int)=e.Bd then some t else none
  |none=>none
theorem VC (h : H) (hf : h.floor ≤ h.next) (e : xP) (v : AV) (hv : v.sc = true) (ok : yF h (e, v)) : ∃ t, aU AP.A 107 [.agg (xA e v)] h = some (.bW [.str t, .bool (AA e).isSome], h) ∧ (∀ u, AA e = some u → t = u) := by
 obtain⟨h1,eh1⟩:∃g,g=h.eO.alloc (xA e v):=⟨_,rfl⟩
 obtain⟨h2,eh2⟩:∃g,g=h1.alloc (xA e v):=⟨_,rfl⟩
 have hx1:Ext h h1:=fun i c q=>by rw[eh1];exact((Ext.refl h.eO).alloc _) i c q
 have hx2:Ext h h2:=by rw[eh2];exact hx1.alloc _
 have hn0:h.eO.next=h.next:=rfl
 have hn1:h1.next=h.next+1:=by rw[eh1];simp
 have g1:h2.get h.next=some (xA e v):=by rw[eh2,xI (by omega),eh1,xE (by simp)]
 have g0:h1.get h.next=some (xA e v):=by rw[eh1,xE (by simp)]
 have o:yM 9 h2 (.aH (h.next+1) 0 1 9) 1 (xG [(e,v)]):=by
  refine⟨?_,rfl,fun _=>by simp⟩
  simp only[aV,if_true]
  rw[eh2,xE (by omega)]
  rfl
 have k1:=N2 h2 (.aH (h.next+1) 0 1 9) [(e,v)] rfl (by simp) o (fun x hx=>by
  obtain rfl:x=(e,v):=by simpa using hx
  exact ok.mono hx2)
 have k1':aU AP.A 113 [.agg [.aH (h.next+1) 0 1 9]] h2=some (.bool (yK [e]),h2):=k1
 have hf2:h2.floor≤h2.next:=by rw[eh2,eh1];simp;omega
 have k2:=NV h2 hf2 e.method e.packed e.size ok.pl
 have rdA:iO true 9 (xA e v) 0=some (.agg (xA e v)):=rfl
 have cr:∀t:ByteArray,t.size<1125899906842624→aU AP.A 115 [.str t] h2=some (.int .i64 (zT t:Nat),h2):=fun t ht=>Iv h2 t ht
 clear k1 o hx1 hx2
 unfold AA
 simp only[xA]at *
 cases hm:yK [e]with
 | false =>
   rw[hm]at k1'
   refine⟨⟨#[]⟩, ?_,fun u q=>by simp at q⟩
   rw[if_pos rfl]
   refine vP (fn:=AP.f107) (h2:=h2) (e:=[(2,.str ⟨#[]⟩),(3,.bool false)]) rfl rfl rfl ?_ rfl rfl
   simp (disch:=omega)only[go_sem,xF,AP.f107,hv,hn0,←eh1,g0,rdA,hn1,←eh2,k1']
 | true =>
   rw[hm]at k1'
   rw[if_neg (by decide)]
   cases hg:e.gone with
   | true =>
     rw[hg]at g1 g0 eh1 eh2 rdA
     refine⟨⟨#[]⟩, ?_,fun u q=>by simpa using q⟩
     refine vP (fn:=AP.f107) (h2:=h2) (e:=[(2,.str ⟨#[]⟩),(3,.bool true)]) rfl rfl rfl ?_ rfl rfl
     simp (disch:=omega)only[go_sem,xF,AP.f107,hv,hn0,←eh1,g0,g1,rdA,hn1,←eh2,k1']
   | false =>
     rw[hg]at g1 g0 eh1 eh2 rdA
     rw[if_neg (by decide)]
     cases hu:Ao e.method e.packed e.size with
     | none =>
       rw[hu]at k2
       simp only[LV]at k2
       refine⟨⟨#[]⟩, ?_,fun u q=>by simp at q⟩
       refine vP (fn:=AP.f107) (h2:=h2) (e:=[(2,.str ⟨#[]⟩),(3,.bool false)]) rfl rfl rfl ?_ rfl rfl
       simp (disch:=omega)only[go_sem,xF,AP.f107,hv,hn0,←eh1,g0,g1,rdA,hn1,←eh2,k1',k2]
     | some t =>
       rw[hu]at k2
       simp only[LV]at k2
       have kc:=cr t (by have:=DJ hu;omega)
       dsimp only
       by_cases c:(zT t:Int)=e.Bd
       · rw[if_pos c]
         refine⟨t, ?_,fun u q=>wH q⟩
         refine vP (fn:=AP.f107) (h2:=h2) (e:=[(2,.str t),(3,.bool true)]) rfl rfl rfl ?_ rfl rfl
         simp (disch:=omega)only[go_sem,xF,AP.f107,hv,hn0,←eh1,g0,g1,rdA,hn1,←eh2,k1',k2,kc]
       · rw[if_neg c]
         refine⟨t, ?_,fun u q=>by simp at q⟩
         refine vP (fn:=AP.f107) (h2:=h2) (e:=[(2,.str t),(3,.bool false)]) rfl rfl rfl ?_ rfl rfl
         simp (disch:=omega)only[go_sem,xF,AP.f107,hv,hn0,←eh1,g0,g1,rdA,hn1,←eh2,k1',k2,kc]
def yi (e:xP):Bool:=(AA e).isSome
theorem Jj (h:H) (hf:h.floor≤h.next) (e:xP) (v:AV) (hv:v.sc=true) (ok:yF h (e,v)):aU AP.A 96 [.agg (xA e v)] h=some (.bool (yi e),h):=by
 obtain⟨h1,eh1⟩:∃g,g=h.eO.alloc (xA e v):=⟨_,rfl⟩
 have hx1:Ext h h1:=fun i c q=>by rw[eh1];exact((Ext.refl h.eO).alloc _) i c q
 have hn0:h.eO.next=h.next:=rfl
 have g0:h1.get h.next=some (xA e v):=by rw[eh1,xE (by simp)]
 obtain⟨t,k1,_⟩:=VC h1 (by rw[eh1];simp) e v hv (ok.mono hx1)
 have rdA:iO true 9 (xA e v) 0=some (.agg (xA e v)):=rfl
 refine vP (fn:=AP.f96) (h2:=h1) (e:=[(2,.bool (yi e))]) rfl rfl rfl ?_ rfl rfl
 clear hx1
 unfold yi
 simp only[xA]at *
 simp (disch:=omega)only[go_sem,xF,AP.f96,hv,hn0,←eh1,g0,rdA,k1]
theorem Ej (e:xP):yK [e]=(yI e.name&&(yy e&&zm e)):=by
 unfold yK yC
 rw[Dh]
 simp [yC]
theorem MS (h : H) (e : xP) (v : AV) (hv : v.sc = true) (ok : yF h (e, v)) : aU AP.A 167 [.agg (xA e v)] h = some (.bool (yK [e]), h) := by
 obtain⟨h1,eh1⟩:∃g,g=h.eO.alloc (xA e v):=⟨_,rfl⟩
 have hx1:Ext h h1:=fun i c q=>by rw[eh1];exact((Ext.refl h.eO).alloc _) i c q
 have hn0:h.eO.next=h.next:=rfl
 have g0:h1.get h.next=some (xA e v):=by rw[eh1,xE (by simp)]
 have k1:=OS h1 e.name ok.nl
 have k2:=J5 h1 v e (ok.mono hx1).vec hv ok.vl
 have e1:bC .eql (.str e.packed) (.str ⟨#[]⟩)=some (.bool (Fa e.packed)):=AR _ _
 have rdA:iO true 9 (xA e v) 0=some (.agg (xA e v)):=rfl
 rw[Ej]
 refine vP (fn:=AP.f167) (h2:=h1) (e:=[(2,.bool (yI e.name&&(yy e&&zm e)))]) rfl rfl rfl ?_ rfl rfl
 clear hx1 ok
 unfold zm Bp
 generalize yI e.name=B1 at *
 generalize yy e=B2 at *
 generalize Fa e.packed=B3 at *
 simp only[xA]at *
 cases B1 with
 |false=>simp (disch:=omega)only[go_sem,xF,AP.f167,hv,hn0,←eh1,g0,rdA,k1,k2]
 | true =>
   cases B2 with
   |false=>simp (disch:=omega)only[go_sem,xF,AP.f167,hv,hn0,←eh1,g0,rdA,k1,k2]
   | true =>
     cases hg:e.gone with
     | true =>
       rw[hg]at g0 eh1 rdA k2
       rw[if_pos rfl]
       by_cases c1:e.method=0
       · cases B3 with
         |false=>simp (disch:=omega)only[go_sem,xF,AP.f167,hv,hn0,←eh1,g0,rdA,k1,k2,e1]
         | true =>
           by_cases c2:e.size=0
           · by_cases c3:e.Bd=0<;>simp (disch:=omega)only[go_sem,xF,AP.f167,hv,hn0,←eh1,g0,rdA,k1,k2,e1]
           · simp (disch:=omega)only[go_sem,xF,AP.f167,hv,hn0,←eh1,g0,rdA,k1,k2,e1]
       · simp (disch:=omega)only[go_sem,xF,AP.f167,hv,hn0,←eh1,g0,rdA,k1,k2,e1]
     | false =>
       rw[hg]at g0 eh1 rdA k2
       rw[if_neg (by decide)]
       by_cases c1:0≤e.size
       · by_cases c2:e.size≤300
         · by_cases c3:0≤e.Bd
           · by_cases c4:e.Bd≤4294967295
             · by_cases c5:e.method=0
               · have c5':¬e.method=8:=by omega
                 by_cases c6:(e.packed.size:Int)=e.size<;>simp (disch:=omega)only[go_sem,xF,AP.f167,hv,hn0,←eh1,g0,rdA,k1,k2,e1]
               · by_cases c7:e.method=8
                 · by_cases c8:e.packed.size≤300<;>simp (disch:=omega)only[go_sem,xF,AP.f167,hv,hn0,←eh1,g0,rdA,k1,k2,e1]
                 · simp (disch:=omega)only[go_sem,xF,AP.f167,hv,hn0,←eh1,g0,rdA,k1,k2,e1]
             · have c4':¬(0≤e.Bd∧e.Bd≤4294967295):=by omega
               simp (disch:=omega)only[go_sem,xF,AP.f167,hv,hn0,←eh1,g0,rdA,k1,k2,e1]
           · have c4':¬(0≤e.Bd∧e.Bd≤4294967295):=by omega
             simp (disch:=omega)only[go_sem,xF,AP.f167,hv,hn0,←eh1,g0,rdA,k1,k2,e1]
         · simp (disch:=omega)only[go_sem,xF,AP.f167,hv,hn0,←eh1,g0,rdA,k1,k2,e1]
       · simp (disch:=omega)only[go_sem,xF,AP.f167,hv,hn0,←eh1,g0,rdA,k1,k2,e1]
theorem BK (h : H) (e : xP) (v : AV) (hv : v.sc = true) (ok : yF h (e, v)) : aU AP.A 157 [.agg (xA e v)] h = some (.bool (yi e), h) := by
 obtain⟨h1,eh1⟩:∃g,g=h.eO.alloc (xA e v):=⟨_,rfl⟩
 have hx1:Ext h h1:=fun i c q=>by rw[eh1];exact((Ext.refl h.eO).alloc _) i c q
 have hn0:h.eO.next=h.next:=rfl
 have g0:h1.get h.next=some (xA e v):=by rw[eh1,xE (by simp)]
 have k1:=MS h1 e v hv (ok.mono hx1)
 have k2:=LW h1 e.method e.packed e.size ok.pl
 have rdA:iO true 9 (xA e v) 0=some (.agg (xA e v)):=rfl
 have cr:∀t:ByteArray,t.size<1125899906842624→aU AP.A 101 [.str t] h1=some (.int .i64 (zT t:Nat),h1):=fun t ht=>EU h1 t ht
 unfold yi AA
 clear hx1 ok
 cases hm:yK [e]with
 | false =>
   rw[hm]at k1
   rw[if_pos rfl]
   refine vP (fn:=AP.f157) (h2:=h1) (e:=[(2,.bool false)]) rfl rfl rfl ?_ rfl rfl
   simp only[xA]at *
   simp (disch:=omega)only[go_sem,xF,AP.f157,hv,hn0,←eh1,g0,rdA,k1]
 | true =>
   rw[hm]at k1
   rw[if_neg (by decide)]
   cases hg:e.gone with
   | true =>
     refine vP (fn:=AP.f157) (h2:=h1) (e:=[(2,.bool true)]) rfl rfl rfl ?_ rfl rfl
     simp only[xA,hg]at *
     simp (disch:=omega)only[go_sem,xF,AP.f157,hv,hn0,←eh1,g0,rdA,k1]
   | false =>
     rw[if_neg (by decide)]
     cases hu:Ao e.method e.packed e.size with
     | none =>
       rw[hu]at k2
       simp only[LV]at k2
       refine vP (fn:=AP.f157) (h2:=h1) (e:=[(2,.bool false)]) rfl rfl rfl ?_ rfl rfl
       simp only[xA,hg]at *
       simp (disch:=omega)only[go_sem,xF,AP.f157,hv,hn0,←eh1,g0,rdA,k1,k2]
     | some t =>
       rw[hu]at k2
       simp only[LV]at k2
       have kc:=cr t (by have:=DJ hu;omega)
       dsimp only
       by_cases c:(zT t:Int)=e.Bd
       · rw[if_pos c]
         refine vP (fn:=AP.f157) (h2:=h1) (e:=[(2,.bool true)]) rfl rfl rfl ?_ rfl rfl
         simp only[xA,hg]at *
         simp (disch:=omega)only[go_sem,xF,AP.f157,hv,hn0,←eh1,g0,rdA,k1,k2,kc]
       · rw[if_neg c]
         refine vP (fn:=AP.f157) (h2:=h1) (e:=[(2,.bool false)]) rfl rfl rfl ?_ rfl rfl
         simp only[xA,hg]at *
         simp (disch:=omega)only[go_sem,xF,AP.f157,hv,hn0,←eh1,g0,rdA,k1,k2,kc]
theorem Nb (c:ae) (e:Env) (h:H) (x y:X):ah c e h (.mx [x,y])=dP h (nJ (x.ev e) (y.ev e)):=by
 simp only[ah,bc,aa5,abn,iC]
 cases nJ (x.ev e) (y.ev e)<;>rfl
def yX (a b:Int):Int:=if a<b then b else a
theorem JE (k:IntKind) (a b:Int):nJ (.int k a) (.int k b)=some (.int k (yX a b)):=rfl
def yw (a b:List Int):List Int:=List.zipWith yX a b
theorem Rd.Y6 {h:H} {v:AV} {cs:List AV} (r:Rd h v cs) (hc:cs≠[]):gG 1 v .aS=some false:=by
 obtain⟨r,hs⟩:=r
 unfold aV at r
 split at r
 · obtain⟨_,h2⟩:=wJ (wH r);exact absurd h2.symm hc
 · exact absurd rfl (hs _)
 · rfl
 · rfl
 · cases r
theorem F5 {n:Nat} {h:H} {v:AV} {k:Nat} {cs:List AV} (r:yM n h v k cs) (hfn:h.floor≤h.next) (hn:0<n) (hk:0<k) {z:Nat} (hr:roomy z k=true) (hc:AV.aE cs=true):
 mo (h.alloc []) n z (.aH h.next 0 0 n) v=some (.aH (h.next+1) 0 k n,((h.alloc []).del h.next).alloc cs):=by
 have r2:yM n (h.alloc []) v k cs:=r.mono fun i c q=>by rw[H.aZ,if_neg (by have:=h.lt _ _ q;omega)];exact q
 unfold mo
 rw[r2.1,wP]
 have hkn:0<k* n:=Nat.mul_pos hk hn
 unfold eK
 rw[if_neg (by omega),if_neg (by simp [hc];omega)]
 simp only[H.j4,hfn,and_self,if_true]
 rw[xE rfl,wP,if_neg (by simp;omega),if_pos ⟨by simp,by simpa using hr⟩]
 simp
theorem Jb {n:Nat} {h:H} {v:AV} {cs:List AV} (r:yM n h v 0 cs) {z:Nat}:mo (h.alloc []) n z (.aH h.next 0 0 n) v=some (.aH h.next 0 0 n,h.alloc []):=by
 have r2:yM n (h.alloc []) v 0 cs:=r.mono fun i c q=>by rw[H.aZ,if_neg (by have:=h.lt _ _ q;omega)];exact q
 unfold mo
 rw[r2.1,wP]
 rfl
theorem CP:∀l:List Int,AV.aE (ints l)=true
 |[]=>rfl
 | n :: l => by
   have:=CP l
   show AV.aE (I n::ints l)=true
   rw[rP,this];rfl
theorem G6 (h:H) (v:AV) (l:List Int) (rd:Rd h v (ints l)) (hl:0<l.length) (hb:l.length<1000000) (hfn:h.floor≤h.next):aU AP.A 118 [v] h=some (.aH (h.next+1) 0 l.length 1,((h.alloc []).del h.next).alloc (ints l)):=by
 have r2:=rd.HB
 rw[rk]at r2
 have ap:=F5 r2 hfn (by omega) hl (z:=8) (by simp [roomy];omega) (CP l)
 have nn:=rd.Y6 (fun q=>by
  have q2:(ints l).length=0:=by rw[q];rfl
  rw[rk]at q2
  omega)
 refine vv (fn:=AP.f118) (h2:=((h.alloc []).del h.next).alloc (ints l)) (e:=[(2,.aH (h.next+1) 0 l.length 1)]) (vs:=[.aH (h.next+1) 0 l.length 1]) rfl rfl rfl ?_ rfl
 clear rd r2
 simp (disch:=omega)only[go_sem,xF,AP.f118,nn,ap]
theorem PN {l:List Int} (h:l.length=4):∃a b c d,l=[a,b,c,d]:=by
 match l,h with
 |[a,b,c,d],_=>exact⟨a,b,c,d,rfl⟩
def Ec (l:List Int):AV:=CG 1 l.length (ints l)
theorem Cx (h:H) (id:Nat) (b0:AV) (adv:Int→AV) (i:Nat) (x y:Int) (cs:List AV) (hi:i<4) (hg:h.get id=some cs) (hl:cs.length=4) (hx:cs[i]?=some (.int .i64 x)) (hf:h.floor≤id)
 (a1:gZ 1 b0 (.int .i64 i)=some (adv i)) (a2:cf false 1 (adv i) h=some (.int .i64 y)):
 aO (aU AP.A) bH AP.f110L0 (ay [(6,.aH id 0 4 1),(19,b0),(20,.int .i64 4),(21,.int .i64 i)] [6,19,20,21]) h=some (.normal,[(6,.aH id 0 4 1),(19,b0),(20,.int .i64 4),(21,.int .i64 ((i:Int)+1))],h.set id (cs.set i (.int .i64 (yX x y)))):=by
 have st:=wx (h:=h) (id:=id) (off:=i) (v:=.int .i64 (yX x y)) (cs:=cs) hf (by omega) rfl
 simp (disch:=omega)only[go_sem,xF,AP.f110L0,a1,a2,hg,hx,Nb,JE,st]
def Ae (a b:xP):Bool:=decide (a.xL<b.xL)||(decide (a.xL=b.xL)&&decide (a.node<b.node))
def BN (a b:xP):Option xP:=
 if yi a&&(yi b&&(a.name.data.toList==b.name.data.toList))then some {(if Ae a b then b else a)with vec:=yw a.vec b.vec}else none
def DQ:xP:=⟨⟨#[]⟩,false,[],0,0,0,⟨#[]⟩,0,0⟩
theorem Fm {e:xP} (h:yi e=true):yS e.vec=true:=by
 unfold yi AA at h
 by_cases c:yK [e]=false
 · rw[if_pos c]at h;cases h
 · rw[Ej]at c
   simp only[Bool.not_eq_false,wT]at c
   have:=c.2.1
   unfold yy at this
   simp only[wT]at this
   exact this.1
theorem NB {g:Nat→Option (List AV)} {fl n:Nat} {e:xP} {v v':AV} (hv:snap g fl (n+1) true v=some v'):snap g fl (n+2) true (.agg (xA e v))=some (.agg (xA e v')):=by
 unfold snap
 simp only[xA,gH,hv]
 rfl
abbrev Z9:List AV:=[.str ⟨#[]⟩,.bool false,.aS,.int .i64 0,.int .i64 0,.int .i64 0,.str ⟨#[]⟩,.int .i64 0,.int .i64 0]
def Ch (name:ByteArray) (node:Nat) (xL:Int) (text:ByteArray):xP:=⟨name,false,[0,0,0,0].set node xL,xL,node,0,text,text.size,zT text⟩
theorem VH {l:List Int} (h:l.length=4):Ec l=.aY false (ints l) 0 4 1:=by unfold Ec CG;rw[h,if_neg (by omega)]
theorem Ok (h : H) (hf : h.floor ≤ h.next) (e : xP) (v : AV) (hv : v.sc = true) (ok : yF h (e, v)) (hb : e.vec.length < 20000000000000) :
 ∃h' v',aU AP.A 92 [.agg (xA e v)] h=some (.agg (xA e v'),h')∧v'=(if e.vec=[]then .aH (h.next+2) 0 0 1 else .aH (h.next+3) 0 e.vec.length 1)∧Rd h' v' (ints e.vec)∧h'.floor=h.floor∧h.next+3≤h'.next∧Ext h h'∧(0<e.vec.length→h'.get (h.next+3)=some (ints e.vec)):=by
 obtain⟨h1,eh1⟩:∃g,g=h.alloc (xA e v):=⟨_,rfl⟩
 obtain⟨h2,eh2⟩:∃g,g=h1.alloc (xA DQ .aS):=⟨_,rfl⟩
 have n1:h1.next=h.next+1:=by rw[eh1];simp
 have n2:h2.next=h.next+2:=by rw[eh2];simp [n1]
 have f2:h2.floor=h.floor:=by rw[eh2,eh1];simp
 have x2:Ext h h2:=by rw[eh2,eh1];exact((Ext.refl h).alloc _).alloc _
 have ga2:h2.get h.next=some (xA e v):=by rw[eh2,xI (by omega),eh1,xE rfl]
 have gz2:h2.get (h.next+1)=some (xA DQ .aS):=by rw[eh2,xE (by omega)]
 have r2:=(ok.vec.mono fun i c q=>x2 i c q).HB
 rw[rk]at r2
 obtain⟨v',h3,ap,hv',hcl,hsc,hrd,g3,f3,n3,hget,x3⟩:∃v' h3,mo (h2.alloc []) 1 8 (.aH h2.next 0 0 1) v=some (v',h3)∧v'=(if e.vec=[]then .aH (h.next+2) 0 0 1 else .aH (h.next+3) 0 e.vec.length 1)∧v'.cells=[v']∧v'.sc=true∧Rd h3 v' (ints e.vec)∧
  (∀i,i<h.next+2→h3.get i=h2.get i)∧h3.floor=h.floor∧h.next+3≤h3.next∧(0<e.vec.length→h3.get (h.next+3)=some (ints e.vec))∧Ext h h3:=by
  by_cases c:e.vec=[]
  · rw[c]at r2
    have:=Jb (z:=8) r2
    refine⟨_,_,this,by rw[if_pos c,n2],rfl,rfl, ?_,fun i hi=> ?_,by simp [f2],by simp [n2],fun q=>by rw[c]at q;simp at q,x2.alloc _⟩
    · rw[c]
      refine⟨?_,fun _=>by simp⟩
      simp only[aV,if_true]
      rw[xE (by omega)];rfl
    · rw[xI (by omega)]
  · have hp:0<e.vec.length:=abo.2 c
    have:=F5 r2 (by omega) (by omega) hp (z:=8) (by simp [roomy];omega) (CP e.vec)
    refine⟨_,_,this,by rw[if_neg c,n2],rfl,rfl, ?_,fun i hi=> ?_,by simp [f2],by simp [n2],fun _=> ?_,fun i d q=> ?_⟩
    · refine⟨?_,fun _=>by simp⟩
      simp only[aV,if_true]
      rw[xE (by simp),wP,if_pos (by simp),aa8,xj (by simp),rk]
    · rw[xI (by simp;omega),H.eS,if_neg (by omega),xI (by omega)]
    · rw[xE (by simp [n2])]
    · have:=h.lt _ _ q
      rw[xI (by simp;omega),H.eS,if_neg (by omega),xI (by omega)];exact x2 i d q
 obtain⟨h4,eh4⟩:∃g,g=h3.set h.next (xA e v'):=⟨_,rfl⟩
 obtain⟨h5,eh5⟩:∃g,g=h4.set (h.next+1) (xA e v'):=⟨_,rfl⟩
 have ga3:h3.get h.next=some (xA e v):=by rw[g3 _ (by omega),ga2]
 have gz3:h3.get (h.next+1)=some (xA DQ .aS):=by rw[g3 _ (by omega),gz2]
 have ga4:h4.get h.next=some (xA e v'):=by rw[eh4,xH rfl,ga3];rfl
 have gz4:h4.get (h.next+1)=some (xA DQ .aS):=by rw[eh4,xC (by omega),gz3]
 have gz5:h5.get (h.next+1)=some (xA e v'):=by rw[eh5,xH rfl,gz4];rfl
 have st4:vR h3 h.next 2 1 [v'] (some (xA e v))=some h4:=by rw[wx (by omega) (by show 2<9;omega) hsc,eh4];rfl
 have st5:vR h4 (h.next+1) 0 9 (xA e v') (some (xA DQ .aS))=some h5:=by
  rw[eh5];exact yl (by rw[eh4];simp;omega) rfl rfl (by simp [xA,hsc])
 have e1:h.alloc (xA e v)=h1:=eh1.symm
 have e2:h1.alloc [.str ⟨#[]⟩,.bool false,.aS,.int .i64 0,.int .i64 0,.int .i64 0,.str ⟨#[]⟩,.int .i64 0,.int .i64 0]=h2:=eh2.symm
 have rr:iO true 9 (xA e v') 0=some (.agg (xA e v')):=rfl
 have lE:(xA e v).length=9:=rfl
 have sE:AV.aE (xA e v)=true:=by simp [xA,hv]
 have c2:(xA e v)[2]?=some v:=rfl
 have hg:∀i,i≠h.next→i≠h.next+1→h5.get i=h3.get i:=fun i q1 q2=>by rw[eh5,xC q2,eh4,xC q1]
 have x5:Ext h3 h5→True:=fun _=>trivial
 refine⟨h5,v',vv (fn:=AP.f92) (h2:=h5) (e:=[(2,.aG (h.next+1) 0)]) (vs:=[.agg (xA e v')]) rfl rfl rfl ?_ ?_,hv', ?_,by rw[eh5,eh4];simp [f3],by rw[eh5,eh4];simpa using n3, ?_,fun q=>by rw[hg _ (by omega) (by omega)];exact hget q⟩
 · clear x5 hg x2 x3 g3 hrd hget r2 ok
   generalize xA e v=A at *
   generalize xA e v'=B at *
   simp (disch:=omega)only[go_sem,xF,AP.f92,lE,sE,e1,n1,e2,ga2,xI,c2,ap,ga3,hcl,st4,ga4,rr,gz4,st5]
 · simp only[AP.f92,c9,oL,ou,sX,gz5,uX];rfl
 · obtain⟨q1,q2⟩:=hrd
   refine⟨?_,q2⟩
   rw[←q1]
   rw[hv']
   by_cases c:e.vec=[]
   · rw[if_pos c];simp only[aV,if_true];rw[hg _ (by omega) (by omega)]
   · rw[if_neg c];simp only[aV,if_true];rw[hg _ (by omega) (by omega)]
 · intro i d q
   have:=h.lt _ _ q
   rw[hg _ (by omega) (by omega)];exact x3 i d q
theorem KI {v w : AV} {a b : List Int} (hab : a.length = b.length) (hl : a.length < 1125899906842624) (h : H) (ra : Rd h v (ints a)) (rb : Rd h w (ints b)) : ∀ (p q r : List Int) (p' : List Int), a = p ++ q → b = p' ++ r → p.length = p'.length →
 (∃e',Lp AP.A [0,1,5] AP.f106L0 [(0,v),(1,w),(5,.int .i64 p.length)] h=some (.exit 0,e',h)∧decide (q=r)=true)∨
 (∃e',Lp AP.A [0,1,5] AP.f106L0 [(0,v),(1,w),(5,.int .i64 p.length)] h=some (.ret,e',h)∧look e' 4=.bool false∧decide (q=r)=false)
 | p, [], r, p', hp, hq, hpp => by
   have hr:r=[]:=aa7 (by rw[hp,hq]at hab;simp at hab;omega)
   left
   have ln:=ra.len
   rw[rk]at ln
   simp only[I]at ln
   rw[aa2]at hp
   refine⟨[(0,v),(1,w),(5,.int .i64 p.length),(14,.bool false)],u6 ?_,by rw[hr];rfl⟩
   rw[hp]at ln
   clear hab hl ra rb
   simp (disch:=omega)only[go_sem,xF,AP.f106L0,ln]
 | p, x :: q, [], p', hp, hq, hpp => by
   exfalso
   rw[hp,hq]at hab;simp at hab;omega
 | p, x :: q, y :: r, p', hp, hq, hpp => by
   have ln:=ra.len
   rw[rk]at ln
   simp only[I]at ln
   have hlen:a.length=p.length+(q.length+1):=by rw[hp];simp
   have hx:a[p.length]?=some x:=by rw[hp];simp
   have hy:b[p.length]?=some y:=by rw[hpp,hq];simp
   obtain⟨ad,a1,a2⟩:=ra.yL
   obtain⟨bd,b1,b2⟩:=rb.yL
   have i1:=a1 p.length ⟨by omega,by omega⟩
   have i2:=b1 p.length ⟨by omega,by omega⟩
   have l1:=a2 h (Ext.refl h) _ _ hx
   have l2:=b2 h (Ext.refl h) _ _ hy
   have w1:(((p++[x]).length:Nat):Int)=(p.length:Int)+1:=by simp
   have ih:=KI hab hl h ra rb (p++[x]) q r (p'++[y]) (by rw[hp];simp) (by rw[hq];simp) (by simp;omega)
   rw[w1]at ih
   clear a1 a2 b1 b2 ra rb w1
   by_cases c:x=y
   · have step:aO (aU AP.A) bH AP.f106L0 (ay [(0,v),(1,w),(5,.int .i64 p.length)] [0,1,5]) h=some (.normal,[(0,v),(1,w),(5,.int .i64 ((p.length:Int)+1))],h):=by
      clear ih hp hq
      simp (disch:=omega)only[go_sem,xF,AP.f106L0,ln,i1,i2,l1,l2]
     have e:decide (x::q=y::r)=decide (q=r):=by simp [c]
     rw[e]
     rcases ih with ⟨e',r1,r2⟩|⟨e',r1,r2,r3⟩
     · exact .inl ⟨e',u9 step r1,r2⟩
     · exact .inr ⟨e',u9 step r1,r2,r3⟩
   · right
     refine⟨[(4,.bool false)],vF ?_,rfl,by simp [c]⟩
     clear ih hp hq
     simp (disch:=omega)only[go_sem,xF,AP.f106L0,ln,i1,i2,l1,l2]
theorem KD (h:H) (v w:AV) (a b:List Int) (ra:Rd h v (ints a)) (rb:Rd h w (ints b)) (hl:a.length<1125899906842624):aU AP.A 106 [v,w] h=some (.bool (decide (a=b)),h):=by
 have ra':=ra.mono (xY h)
 have rb':=rb.mono (xY h)
 have la:=ra'.len
 have lb:=rb'.len
 rw[rk]at la lb
 simp only[I]at la lb
 by_cases c:a.length=b.length
 · rcases KI c hl h.eO ra' rb' [] a b [] rfl rfl rfl with ⟨e',r1,r2⟩|⟨e',r1,r2,r3⟩
   · have r1':Lp AP.A [0,1,5] AP.f106L0 [(0,v),(1,w),(5,.int .i64 0)] h.eO=some (.exit 0,e',h.eO):=r1
     clear r1
     rw[r2]
     refine vP (fn:=AP.f106) (h2:=h.eO) (e:=[(4,.bool true)]) rfl rfl rfl ?_ rfl rfl
     simp (disch:=omega)only[go_sem,xF,AP.f106,la,lb,uo,r1']
   · have r1':Lp AP.A [0,1,5] AP.f106L0 [(0,v),(1,w),(5,.int .i64 0)] h.eO=some (.ret,e',h.eO):=r1
     clear r1
     rw[r3]
     refine vP (fn:=AP.f106) (h2:=h.eO) (e:=e') (vs:=[.bool false]) rfl rfl rfl ?_ (by simp only[AP.f106,c9,oL,r2];rfl) rfl
     simp (disch:=omega)only[go_sem,xF,AP.f106,la,lb,uo,r1']
 · have e:decide (a=b)=false:=by rw[decide_eq_false_iff_not];intro q;exact c (by rw[q])
   rw[e]
   refine vP (fn:=AP.f106) (h2:=h.eO) (e:=[(4,.bool false)]) rfl rfl rfl ?_ rfl rfl
   simp (disch:=omega)only[go_sem,xF,AP.f106,la,lb]
def Al (a b:xP):Bool:=(a.name.data.toList==b.name.data.toList)&&((a.gone==b.gone)&&(decide (a.vec=b.vec)&&(decide (a.xL=b.xL)&&(decide (a.node=b.node)&&(decide (a.method=b.method)&&((a.packed.data.toList==b.packed.data.toList)&&(decide (a.size=b.size)&&decide (a.Bd=b.Bd))))))))
theorem BU (a b:xP):Al a b=true↔a=b:=by
 have q:∀x y:ByteArray,(x.data.toList==y.data.toList)=true↔x=y:=fun x y=>by
  constructor
  · intro e;exact ByteArray.ext (Array.toList_inj.1 (eq_of_beq e))
  · rintro rfl;exact IY _
 obtain⟨a1,a2,a3,a4,a5,a6,a7,a8,a9⟩:=a
 obtain⟨b1,b2,b3,b4,b5,b6,b7,b8,b9⟩:=b
 simp only[Al,wT,aa1,q,beq_iff_eq,xP.mk.injEq]
theorem Hu (h : H) (a b : xP) (v w : AV) (sa : v.sc = true) (sb : w.sc = true) (ra : yF h (a, v)) (rb : yF h (b, w)) : aU AP.A 98 [.agg (xA a v), .agg (xA b w)] h = some (.bool (Al a b), h) := by
 obtain⟨h1,eh1⟩:∃g,g=h.eO.alloc (xA a v):=⟨_,rfl⟩
 obtain⟨h2,eh2⟩:∃g,g=h1.alloc (xA b w):=⟨_,rfl⟩
 have x1:Ext h h1:=fun i c q=>by rw[eh1];exact((Ext.refl h.eO).alloc _) i c q
 have x2:Ext h h2:=by rw[eh2];exact x1.alloc _
 have n0:h.eO.next=h.next:=rfl
 have n1:h1.next=h.next+1:=by rw[eh1];simp
 have ga:h2.get h.next=some (xA a v):=by rw[eh2,xI (by omega),eh1,xE (by simp)]
 have gb:h2.get (h.next+1)=some (xA b w):=by rw[eh2,xE (by omega)]
 have k1:=KD h2 v w a.vec b.vec (ra.mono x2).vec (rb.mono x2).vec ra.vl
 have s1:bC .eql (.str a.name) (.str b.name)=some (.bool (a.name.data.toList==b.name.data.toList)):=AR _ _
 have s2:bC .eql (.str a.packed) (.str b.packed)=some (.bool (a.packed.data.toList==b.packed.data.toList)):=AR _ _
 have e1:h.eO.alloc (xA a v)=h1:=eh1.symm
 have e2:h1.alloc (xA b w)=h2:=eh2.symm
 refine vP (fn:=AP.f98) (h2:=h2) (e:=[(4,.bool (Al a b))]) rfl rfl rfl ?_ rfl rfl
 unfold Al
 clear x1 x2 ra rb eh1 eh2
 generalize (a.name.data.toList==b.name.data.toList)=B1 at *
 generalize (a.packed.data.toList==b.packed.data.toList)=B2 at *
 obtain⟨B3,hB3⟩:∃B,(a.gone==b.gone)=B:=⟨_,rfl⟩
 rw[hB3]
 generalize decide (a.vec=b.vec)=B4 at *
 simp only[xA]at *
 cases B1 with
 |false=>simp (disch:=omega)only[go_sem,xF,AP.f98,sa,sb,n0,e1,n1,e2,ga,gb,s1,s2,hB3,k1]
 | true =>
   cases B3 with
   |false=>simp (disch:=omega)only[go_sem,xF,AP.f98,sa,sb,n0,e1,n1,e2,ga,gb,s1,s2,hB3,k1]
   | true =>
     cases B4 with
     |false=>simp (disch:=omega)only[go_sem,xF,AP.f98,sa,sb,n0,e1,n1,e2,ga,gb,s1,s2,hB3,k1]
     | true =>
       by_cases c3:a.xL=b.xL
       · by_cases c4:a.node=b.node
         · by_cases c5:a.method=b.method
           · cases B2 with
             |false=>simp (disch:=omega)only[go_sem,xF,AP.f98,sa,sb,n0,e1,n1,e2,ga,gb,s1,s2,hB3,k1]
             | true =>
               by_cases c7:a.size=b.size
               · by_cases c8:a.Bd=b.Bd
                 · simp (disch:=omega)only[go_sem,xF,AP.f98,sa,sb,n0,e1,n1,e2,ga,gb,s1,s2,hB3,k1]
                 · simp (disch:=omega)only[go_sem,xF,AP.f98,sa,sb,n0,e1,n1,e2,ga,gb,s1,s2,hB3,k1]
               · simp (disch:=omega)only[go_sem,xF,AP.f98,sa,sb,n0,e1,n1,e2,ga,gb,s1,s2,hB3,k1]
           · simp (disch:=omega)only[go_sem,xF,AP.f98,sa,sb,n0,e1,n1,e2,ga,gb,s1,s2,hB3,k1]
         · simp (disch:=omega)only[go_sem,xF,AP.f98,sa,sb,n0,e1,n1,e2,ga,gb,s1,s2,hB3,k1]
       · simp (disch:=omega)only[go_sem,xF,AP.f98,sa,sb,n0,e1,n1,e2,ga,gb,s1,s2,hB3,k1]
def nA:ByteArray:=⟨#[97]⟩
def nB:ByteArray:=⟨#[98]⟩
def Zt:ByteArray:=⟨#[104,105]⟩
def tHo:ByteArray:=⟨#[104,111]⟩
def eA:xP:=Ch nA 0 1 Zt
def eB:xP:=Ch nA 2 1 tHo
def eC:xP:=Ch nB 0 1 ⟨#[]⟩
theorem yF.ar {h:H} {e:xP} (hv:e.vec.length=4) (nl:e.name.size<1000000) (pl:e.packed.size<1000000):yF h (e,Ec e.vec):=
 ⟨by rw[show(e,Ec e.vec).2=Ec e.vec from rfl,VH hv];have:=y8 h e.vec;unfold xU at this;rw[hv]at this;exact this,by show e.vec.length<_;omega,by show e.name.size<_;omega,by show e.packed.size<_;omega⟩
theorem Rd.obj {h:H} {p n:Nat} {l:List Int} (hp:h.get p=some (ints l)) (hl:l.length=n):Rd h (.aH p 0 n 1) (ints l):=
 ⟨by subst hl;simp only[aV,if_true,hp,wP];rw[if_pos (by simp),aa8,xj (by simp),rk],fun s e=>by cases e⟩
theorem yF.obj {h:H} {e:xP} {p n:Nat} {l:List Int} (hp:h.get p=some (ints l)) (hl:l.length=n) (he:e.vec=l:=by rfl) (nl:e.name.size<1125899906842624) (pl:e.packed.size<1125899906842624) (hn:n<1000000:=by decide):yF h (e,.aH p 0 n 1):=
 ⟨by show Rd h _ (ints e.vec);rw[he];exact Rd.obj hp hl,by show e.vec.length<_;rw[he];omega,by show e.name.size<_;omega,by show e.packed.size<_;omega⟩
theorem KR (l:List Int):(Ec l).sc=true:=by unfold Ec CG;split<;>rfl
theorem yH {e:xP} {v:AV} (h:v.sc=true):AV.aE (xA e v)=true:=by simp [xA,h]
def Ig:Ty:=.int .i64
def PL:Ty:=.sl Ig 1 8
def Sw:Ty:=.st [.str,.bool,PL,Ig,Ig,Ig,.str,Ig,Ig]
theorem D9 {B:Nat} {avs:List AV} (h:Sh B Ig avs):∃n,avs=[.int .i64 n]∧(-9223372036854775808≤n∧n<9223372036854775808):=by
 cases h with
 |int h=>exact⟨_,rfl,vr h⟩
theorem Pc {B:Nat} {avs:List AV} (h:Sh B .bool avs):∃b,avs=[.bool b]:=by
 cases h with
 |bool b=>exact⟨b,rfl⟩
theorem Ny {avs:List AV} (h:Sh reachBytes .str avs):∃s:ByteArray,avs=[.str s]∧s.size<140737488355328:=by
 cases h with
 |str h=>exact⟨_,rfl,vS h⟩
theorem Pg {B:Nat} {avs:List AV} {ess:List (List AV)} (h:∀es,es∈ess→Sh B Ig es):∃l:List Int,l.length=ess.length∧ess.flatten=ints l:=by
 induction ess with
 |nil=>exact⟨[],rfl,rfl⟩
 | cons x ess ih =>
   obtain⟨n,rfl,_⟩:=D9 (h x (by simp))
   obtain⟨l,h1,h2⟩:=ih fun es q=>h es (by simp [q])
   exact⟨n::l,by simp [h1],by rw[List.flatten_cons,h2];rfl⟩
theorem Pf {avs:List AV} (h:Sh reachBytes PL avs):∃(v:AV) (l:List Int),avs=[v]∧v.sc=true∧(∀g,Rd g v (ints l))∧l.length<20000000000000:=by
 cases h with
 |aS=>exact⟨.aS,[],rfl,rfl,fun g=>⟨rfl,fun s e=>by cases e⟩,by simp⟩
 | aY ess h hz hb =>
   obtain⟨l,h1,h2⟩:=Pg (avs:=[]) h
   rw[h2,←h1]
   refine⟨_,l,rfl,rfl,fun g=> ?_, ?_⟩
   · have:=y8 g l
     unfold xU at this;exact this
   · rw[h1];unfold reachBytes at hb;omega
theorem zL {B:Nat} {f:Ty} {fs:List Ty} {avs:List AV} (h:jM B (f::fs) avs):∃a r,avs=a++r∧Sh B f a∧jM B fs r:=by
 cases h with
 |cons h hr=>exact⟨_,_,rfl,h,hr⟩
theorem KF {B:Nat} {avs:List AV} (h:jM B [] avs):avs=[]:=by
 cases h;rfl
theorem PZ {B:Nat} {fs:List Ty} {avs:List AV} (h:Sh B (.st fs) avs):jM B fs avs:=by
 cases h with
 |st h=>exact h
theorem Vu {avs:List AV} (h:Sh reachBytes Sw avs):∃(e:xP) (v:AV),avs=xA e v∧v.sc=true∧(∀g,yF g (e,v))∧e.vec.length<20000000000000:=by
 obtain⟨a1,r1,rfl,s1,h1⟩:=zL (PZ h)
 obtain⟨a2,r2,rfl,s2,h2⟩:=zL h1
 obtain⟨a3,r3,rfl,s3,h3⟩:=zL h2
 obtain⟨a4,r4,rfl,s4,h4⟩:=zL h3
 obtain⟨a5,r5,rfl,s5,h5⟩:=zL h4
 obtain⟨a6,r6,rfl,s6,h6⟩:=zL h5
 obtain⟨a7,r7,rfl,s7,h7⟩:=zL h6
 obtain⟨a8,r8,rfl,s8,h8⟩:=zL h7
 obtain⟨a9,r9,rfl,s9,h9⟩:=zL h8
 obtain rfl:=KF h9
 obtain⟨n,rfl,z1⟩:=Ny s1
 obtain⟨g,rfl⟩:=Pc s2
 obtain⟨v,l,rfl,hv,rd,z3⟩:=Pf s3
 obtain⟨st,rfl,_⟩:=D9 s4
 obtain⟨no,rfl,_⟩:=D9 s5
 obtain⟨me,rfl,_⟩:=D9 s6
 obtain⟨pa,rfl,z7⟩:=Ny s7
 obtain⟨si,rfl,_⟩:=D9 s8
 obtain⟨cr,rfl,_⟩:=D9 s9
 exact⟨⟨n,g,l,st,no,me,pa,si,cr⟩,v,rfl,hv,fun g=>⟨rd g,by show l.length<_;omega,by show n.size<_;omega,by show pa.size<_;omega⟩,z3⟩
theorem Zd {P:Ty×List AV→Prop} {a b:Ty} {r:List (Ty×List AV)} (h:r.map (·.1)=[a,b]) (hp:∀x∈r,P x):∃x y,r=[(a,x),(b,y)]∧P (a,x)∧P (b,y):=by
 match r,h with
 |[(a',x),(b',y)],h=>simp at h;obtain⟨rfl,rfl⟩:=h;exact⟨x,y,rfl,hp _ (by simp),hp _ (by simp)⟩
end Ab
