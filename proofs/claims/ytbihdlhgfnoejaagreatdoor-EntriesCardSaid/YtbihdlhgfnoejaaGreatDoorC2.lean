/- Part C2. -/
import Derived.Test.YtbihdlhgfnoejaaGreatDoorC1
set_option linter.unusedSimpArgs false
set_option linter.unusedVariables false
namespace Ab
open Go
theorem A9 {c:FC} {S:SS} {h:H} {ov:AV} (st:Ft c S h ov) (a b:AV) (n d i:Nat) (hs:n≤i∨(i<n∧S.e≠0)):
 ∃e',Lp AP.A [0,1,2,10,14,15] AP.f20L0 [(0,.aH c.f 0),(1,a),(2,b),(10,I n),(14,I d),(15,I i)] h=some (.exit 2,e',h)∧look e' 0=.aH c.f 0∧look e' 1=a∧look e' 2=b:=by
 have gf:=st.gf
 refine⟨[(0,.aH c.f 0),(1,a),(2,b),(10,I n),(14,I d),(15,I i),(107,.bool false)],wh ?_,rfl,rfl,rfl⟩
 rcases hs with hn|⟨hn,he⟩
 · have c1:¬(i:Int)<n:=by omega
   simp only[I]at *
   simp only[AP.f20L0,go_sem,QL c1]
 · have c1:(i:Int)<n:=by omega
   have c2:=xb he
   simp only[I]at *
   simp only[AP.f20L0,go_sem,QM c1,gf,c2]
theorem Dm {c : FC} (a b : AV) (d : Nat) (hd : 0 < d) (n : Nat) (hn : n ≤ 65535) : ∀ (m i : Nat) (S : SS) (h : H) (ov : AV), i + m = n → Ft c S h ov → S.e = 0 → d ≤ S.out.length →
 ∃ e' h' ov' S', Lp AP.A [0, 1, 2, 10, 14, 15] AP.f20L0 [(0, .aH c.f 0), (1, a), (2, b), (10, I n), (14, I d), (15, I i)] h = some (.exit 2, e', h') ∧ look e' 0 = .aH c.f 0 ∧ look e' 1 = a ∧ look e' 2 = b ∧ Ft c S' h' ov' ∧ FF c h ov h' ov' ∧ match Bi c.most d m S.out with
   | .ok o=>S'={S with out:=o}
   | .error k=>S'.e=k∧k≠0
 | 0, i, S, h, ov, hm, st, he, hl => by
   obtain⟨e',q,q2⟩:=A9 st a b n d i (.inl (by omega))
   exact⟨e',h,ov,S,q,q2.1,q2.2.1,q2.2.2,st,FF.refl _ _ _,by simp only[Bi]⟩
 | m + 1, i, S, h, ov, hm, st, he, hl => by
   have gf:=st.gf
   have hol:=st.ol
   have hml:=st.ml
   have ln:=st.own.len
   rw[zT]at ln
   have c1:(i:Int)<n:=by omega
   have w1:IntKind.wrap .i64 ((i:Int)+1)=((i+1:Nat):Int):=yJ (n:=i+1) (by omega)
   have w2:IntKind.wrap .i64 ((S.out.length:Int)-d)=((S.out.length-d:Nat):Int):=by rw[show(S.out.length:Int)-d=((S.out.length-d:Nat):Int)by omega];exact yJ (by omega)
   have hb:=GC (l:=S.out) (i:=S.out.length-d) (by omega)
   obtain⟨id,i1,i2,i3⟩:=st.own.elem hb
   obtain⟨h2,ov2,S2,p1,p2,p3,p4⟩:=Gl st he (S.out.getD (S.out.length-d) 0)
   have step:aP (aV AP.A) bL AP.f20L0 (aC [(0,.aH c.f 0),(1,a),(2,b),(10,I n),(14,I d),(15,I i)] [0,1,2,10,14,15]) h=some (.normal,[(0,.aH c.f 0),(1,a),(2,b),(10,I n),(14,I d),(15,I (i+1:Nat))],h2):=by
    clear i1
    rw[he]at gf
    simp only[I]at *
    simp only[AP.f20L0,go_sem,QM c1,gf,ln,w2,i2,i3,hb,p1,w1]
   rw[Bi]
   by_cases hm':c.most≤S.out.length
   · rw[if_pos hm']at p4 ⊢
     have he2:S2.e=701:=by rw[p4]
     have hs:n≤i+1∨(i+1<n∧S2.e≠0):=by
      by_cases q:i+1<n
      · exact .inr ⟨q,by rw[he2];decide⟩
      · exact .inl (by omega)
     obtain⟨e',q,q2⟩:=A9 p2 a b n d (i+1) hs
     exact⟨e',h2,ov2,_,wj step q,q2.1,q2.2.1,q2.2.2,p2,p3,he2,by decide⟩
   · rw[if_neg hm']at p4 ⊢
     subst p4
     obtain⟨e',h',ov',S',q1,q2,q3,q4,q5,q6,q7⟩:=Dm a b d hd n hn m (i+1) _ h2 ov2 (by omega) p2 rfl (by simp;omega)
     refine⟨e',h',ov',S',wj step q1,q2,q3,q4,q5,p3.trans q6, ?_⟩
     dsimp only at q7 ⊢
     rw[he]
     exact q7
theorem AN {c:FC} {S:SS} {h:H} {ov:AV} (st:Ft c S h ov) (a b:AV) (hs:S.e≠0):
 ∃e',Lp AP.A [0,1,2] AP.f20L1 [(0,.aH c.f 0),(1,a),(2,b)] h=some (.exit 0,e',h):=by
 have gf:=st.gf
 refine⟨[(0,.aH c.f 0),(1,a),(2,b),(20,.bool false)],wh ?_⟩
 have c2:=xb hs
 simp only[I]at *
 simp only[AP.f20L1,go_sem,gf,c2]
theorem Bn {c : FC} (ll dl : List Int) (hll : ll.length < 1000) (hdl : dl.length < 1000) : ∀ (k : Nat) (S : SS) (h : H) (ov : AV), Ft c S h ov → S.e = 0 → 8 * c.text.size < S.at_ + k →
 ∃e' h' ov' S',(Lp AP.A [0,1,2] AP.f20L1 [(0,.aH c.f 0),(1,yT ll),(2,yT dl)] h=some (.ret,e',h')∨Lp AP.A [0,1,2] AP.f20L1 [(0,.aH c.f 0),(1,yT ll),(2,yT dl)] h=some (.exit 0,e',h'))∧Ft c S' h' ov'∧FF c h ov h' ov'∧Fin (zX c.text c.most ll dl k S.at_ S.out) S'
 |0,S,h,ov,st,he,hk=>by have:=st.zC;omega
 | k + 1, S, h, ov, st, he, hk => by
   have gf:=st.gf
   rw[he]at gf
   obtain⟨h1,S1,z,s1,s2,s3,s4⟩:=Cv ll hll st he
   have gf1:=s2.gf
   rw[zX]
   cases hz:Ai c.text ll 15 1 0 S.at_ with
   | none =>
     rw[hz]at s4
     obtain⟨s4,s5⟩:=s4
     have ce:(S1.e !=0)=true:=xh (by rw[s4];decide)
     refine⟨[(0,.aH c.f 0),(1,yT ll),(2,yT dl),(6,I z),(32,.bool true)],h1,ov,S1,.inl (wM ?_),s2,s3,s4,by decide⟩
     simp only[I]at *
     simp only[AP.f20L1,go_sem,gf,s1,gf1,ce]
   | some zp =>
     obtain⟨z2,p1⟩:=zp
     rw[hz]at s4
     obtain⟨s4,s5⟩:=s4
     subst s5 s4
     dsimp only at gf1
     rw[he]at gf1
     have zb:=Ad hz
     obtain⟨y,hy⟩:∃n:Nat,z=n:=QQ zb.1
     subst hy
     dsimp only
     by_cases c1:(y:Int)<256
     · rw[if_pos c1]
       have w1:IntKind.wrap .u8 (y:Int)=y:=wrap_u8 (by omega)
       have c256:((y:Int)==256)=false:=xb (by omega)
       obtain⟨h2,ov2,S2,p1',p2',p3',p4'⟩:=Gl s2 he y
       have step:aP (aV AP.A) bL AP.f20L1 (aC [(0,.aH c.f 0),(1,yT ll),(2,yT dl)] [0,1,2]) h=some (.normal,[(0,.aH c.f 0),(1,yT ll),(2,yT dl)],h2):=by
        simp only[I]at *
        simp only[AP.f20L1,go_sem,gf,s1,gf1,c256,QM c1,w1,p1']
       dsimp only at p4'
       by_cases hm:c.most≤S.out.length
       · rw[if_pos hm]at p4' ⊢
         have he2:S2.e=701:=by rw[p4']
         obtain⟨e',q⟩:=AN p2' (yT ll) (yT dl) (by rw[he2];decide)
         exact⟨e',h2,ov2,_,.inr (wj step q),p2',s3.trans p3',he2,by decide⟩
       · rw[if_neg hm]at p4' ⊢
         subst p4'
         obtain⟨e',h',ov',S',q1,q2,q3,q4⟩:=Bn ll dl hll hdl k _ h2 ov2 p2' rfl (by dsimp only;omega)
         refine⟨e',h',ov',S', ?_,q2,(s3.trans p3').trans q3,q4⟩
         rcases q1 with q1|q1
         · exact .inl (wj step q1)
         · exact .inr (wj step q1)
     · rw [if_neg c1]
       by_cases c2:(y:Int)=256
       · rw[if_pos c2]
         refine⟨[(0,.aH c.f 0),(1,yT ll),(2,yT dl),(6,I y),(32,.bool true)],h1,ov,_,.inl (wM ?_),s2,s3, ?_⟩
         · have c2':=xc c2
           simp only[I]at *
           simp only[AP.f20L1,go_sem,gf,s1,gf1,c2']
         · simp only[Fin];rw[he]
       · rw [if_neg c2]
         have c256:=xb c2
         have lo:=Il h1 y (by omega)
         rw[Q0]
         unfold B8
         have n600:((600:Int) !=0)=true:=rfl
         have n0:((0:Int) !=0)=false:=rfl
         cases hlo:lenOf y with
         | none =>
           rw[hlo]at lo
           obtain⟨h2,f1,f2,f3⟩:=Ae s2
           refine⟨[],h2,ov,_,.inl (wM ?_),f2,s3.trans f3,by simp [yQ,he],by decide⟩
           simp only[I,Bw]at *
           simp only[AP.f20L1,go_sem,gf,s1,gf1,c256,QL c1,lo,n600,f1]
         | some le =>
           obtain⟨least,extra⟩:=le
           rw[hlo]at lo
           obtain⟨b1,b2,b3⟩:=FE hlo
           obtain⟨h2,k1,k2,k3⟩:=zU s2 extra extra rfl (by omega)
           dsimp only
           by_cases hp:p1+extra≤8* c.text.size
           · have eg : yY c extra { S with at_ := p1 } = (yN c.text p1 extra, { S with at_ := p1 + extra }) := by rw [yY, if_pos hp]
             rw[eg]at k1 k2
             dsimp only at k1 k2
             rw[if_pos hp]
             have gf2:=k2.gf
             dsimp only at gf2
             rw[he]at gf2
             have hve:=zg c.text p1 extra
             have hve2:2^extra≤2^5:=QO (by omega) b2
             have w1:IntKind.wrap .i64 ((least:Int)+(yN c.text p1 extra:Int))=((least+yN c.text p1 extra:Nat):Int):=by
              rw[show(least:Int)+(yN c.text p1 extra:Int)=((least+yN c.text p1 extra:Nat):Int)by omega];exact yJ (by omega)
             obtain⟨h3,S3,z,s1',s2',s3',s4'⟩:=Cv dl hdl k2 he
             have gf3:=s2'.gf
             dsimp only at s4'
             cases hz2:Ai c.text dl 15 1 0 (p1+extra)with
             | none =>
               rw[hz2]at s4'
               obtain⟨s4',s5'⟩:=s4'
               have ce3:(S3.e !=0)=true:=xh (by rw[s4'];decide)
               refine⟨[(0,.aH c.f 0),(1,yT ll),(2,yT dl),(10,I (least+yN c.text p1 extra:Nat)),(11,I z),(66,.bool true)],h3,ov,S3,.inl (wM ?_),s2',(s3.trans k3).trans s3',s4',by decide⟩
               simp only[I,Bw]at *
               simp only[AP.f20L1,go_sem,gf,s1,gf1,c256,QL c1,lo,n0,k1,w1,gf2,s1',gf3,ce3]
             | some zp =>
               obtain⟨z2,p2⟩:=zp
               rw[hz2]at s4'
               obtain⟨s4',s5'⟩:=s4'
               subst s5' s4'
               have zb2:=Ad hz2
               obtain⟨zn,hzn⟩:∃n:Nat,z=n:=QQ zb2.1
               subst hzn
               have dob:=He h3 zn (by omega)
               dsimp only at gf3 ⊢
               rw[he]at gf3
               rw[Q0]
               cases hdo:zY zn with
               | none =>
                 rw[hdo]at dob
                 obtain⟨h4,f1,f2,f3⟩:=Ae s2'
                 refine⟨[],h4,ov,_,.inl (wM ?_),f2,((s3.trans k3).trans s3').trans f3,by simp [yQ,he],by decide⟩
                 simp only[I,Bw]at *
                 simp only[AP.f20L1,go_sem,gf,s1,gf1,c256,QL c1,lo,n0,k1,w1,gf2,s1',gf3,dob,n600,f1]
               | some lx =>
                 obtain⟨ld,xd⟩:=lx
                 rw[hdo]at dob
                 obtain⟨d1,d2,d3⟩:=Ea hdo
                 obtain⟨h4,v1,v2,v3⟩:=zU s2' xd xd rfl (by omega)
                 obtain⟨x,hx⟩:∃x,x=(yY c xd {S with at_:=p2}).1:=⟨_,rfl⟩
                 obtain⟨S4,hS4⟩:∃x,x=(yY c xd {S with at_:=p2}).2:=⟨_,rfl⟩
                 rw[←hx]at v1;rw[←hS4]at v2
                 have hxb:x<65536:=hx ▸ ER c _ xd (by omega)
                 have w2:IntKind.wrap .i64 ((ld:Int)+(x:Int))=((ld+x:Nat):Int):=by
                  rw[show(ld:Int)+(x:Int)=((ld+x:Nat):Int)by omega];exact yJ (by omega)
                 have gf4:=v2.gf
                 have ln:=v2.own.len
                 rw[zT]at ln
                 have frs:=((s3.trans k3).trans s3').trans v3
                 dsimp only
                 have toLoop:∀(h5:H) (e6:Env) (h6:H),((S4.e=0∧S4.out.length<ld+x∧aV AP.A 25 [.aH c.f 0] h4=some (.cf [],h5))∨((S4.e≠0∨¬S4.out.length<ld+x)∧h5=h4))→Lp AP.A [0,1,2,10,14,15] AP.f20L0 [(0,.aH c.f 0),(1,yT ll),(2,yT dl),(10,I (least+yN c.text p1 extra:Nat)),(14,I (ld+x:Nat)),(15,I 0)] h5=some (.exit 2,e6,h6)→
                  look e6 0=.aH c.f 0→look e6 1=yT ll→look e6 2=yT dl→aP (aV AP.A) bL AP.f20L1 (aC [(0,.aH c.f 0),(1,yT ll),(2,yT dl)] [0,1,2]) h=some (.normal,[(0,.aH c.f 0),(1,yT ll),(2,yT dl)],h6):=by
                  intro h5 e6 h6 hcase q6 l0 l1 l2
                  rcases hcase with ⟨g1,g2,g3⟩|⟨g1,rfl⟩
                  · have g2':(S4.out.length:Int)<((ld+x:Nat):Int):=by omega
                    have g1':=xc g1
                    simp only[I,Bw]at *
                    simp only[AP.f20L1,go_sem,gf,s1,gf1,c256,QL c1,lo,n0,k1,w1,gf2,s1',gf3,dob,v1,w2,gf4,g1',ln,QM g2',g3,vp,q6,l0,l1,l2]
                  · by_cases g3:S4.e=0
                    · have g2:¬S4.out.length<ld+x:=by
                       rcases g1 with q|q
                       · exact absurd g3 q
                       · exact q
                      have g2':¬(S4.out.length:Int)<((ld+x:Nat):Int):=by omega
                      have g1':=xc g3
                      clear g1
                      simp only[I,Bw]at *
                      simp only[AP.f20L1,go_sem,gf,s1,gf1,c256,QL c1,lo,n0,k1,w1,gf2,s1',gf3,dob,v1,w2,gf4,g1',ln,QL g2',vp,q6,l0,l1,l2]
                    · have g1':=xb g3
                      clear g1
                      simp only[I,Bw]at *
                      simp only[AP.f20L1,go_sem,gf,s1,gf1,c256,QL c1,lo,n0,k1,w1,gf2,s1',gf3,dob,v1,w2,gf4,g1',ln,vp,q6,l0,l1,l2]
                 by_cases hp2:p2+xd≤8* c.text.size
                 · have egx:yY c xd {S with at_:=p2}=(yN c.text p2 xd,{S with at_:=p2+xd}):=by rw[yY,if_pos hp2]
                   rw[egx]at hx hS4;dsimp only at hx hS4
                   subst hS4
                   rw[←hx]
                   by_cases hbk:S.out.length<ld+x
                   · rw[if_neg (fun q=>by omega)]
                     obtain⟨h5,f1,f2,f3⟩:=Ae v2
                     have he5:(yQ 700 {S with at_:=p2+xd}).e=700:=by simp [yQ,he]
                     obtain⟨e6,q6,q7,q8,q9⟩:=A9 f2 (yT ll) (yT dl) (least+yN c.text p1 extra) (ld+x) 0 (.inr ⟨by omega,by rw[he5];decide⟩)
                     have step:=toLoop h5 e6 h5 (.inl ⟨he,hbk,f1⟩) q6 q7 q8 q9
                     obtain⟨e',q⟩:=AN f2 (yT ll) (yT dl) (by rw[he5];decide)
                     exact⟨e',h5,ov,_,.inr (wj step q),f2,frs.trans f3,he5,by decide⟩
                   · rw[if_pos ⟨hp2,by omega⟩]
                     obtain⟨e6,h6,ov6,S6,q1,q2,q3,q4,q5,q6,q7⟩:=Dm (c:=c) (yT ll) (yT dl) (ld+x) (by omega) (least+yN c.text p1 extra) (by omega) (least+yN c.text p1 extra) 0 _ h4 ov (by omega) v2 he (by dsimp only;omega)
                     have step:=toLoop h4 e6 h6 (.inr ⟨.inr hbk,rfl⟩) q1 q2 q3 q4
                     dsimp only at q7
                     cases hcl:Bi c.most (ld+x) (least+yN c.text p1 extra) S.out with
                     | error q =>
                       rw[hcl]at q7
                       obtain⟨e',q'⟩:=AN q5 (yT ll) (yT dl) (by rw[q7.1];exact q7.2)
                       exact⟨e',h6,ov6,S6,.inr (wj step q'),q5,frs.trans q6,q7⟩
                     | ok o =>
                       rw[hcl]at q7
                       dsimp only at q7
                       subst q7
                       obtain⟨e',h',ov',S',r1,r2,r3,r4⟩:=Bn ll dl hll hdl k _ h6 ov6 q5 he (by dsimp only;omega)
                       refine⟨e',h',ov',S', ?_,r2,(frs.trans q6).trans r3,r4⟩
                       rcases r1 with r1|r1
                       · exact .inl (wj step r1)
                       · exact .inr (wj step r1)
                 · rw[if_neg (fun q=>hp2 q.1)]
                   have he4:S4.e=700:=by rw[hS4,yY,if_neg hp2];simp [yQ,he]
                   obtain⟨e6,q6,q7,q8,q9⟩:=A9 v2 (yT ll) (yT dl) (least+yN c.text p1 extra) (ld+x) 0 (.inr ⟨by omega,by rw[he4];decide⟩)
                   have step:=toLoop h4 e6 h4 (.inr ⟨.inl (by rw[he4];decide),rfl⟩) q6 q7 q8 q9
                   obtain⟨e',q⟩:=AN v2 (yT ll) (yT dl) (by rw[he4];decide)
                   exact⟨e',h4,ov,_,.inr (wj step q),v2,frs,he4,by decide⟩
           · have eg:yY c extra {S with at_:=p1}=(0,{S with at_:=p1,e:=700}):=by rw[yY,if_neg hp,yQ,if_pos he]
             rw[eg]at k1 k2
             dsimp only at k1 k2
             rw[if_neg hp]
             have gf2:=k2.gf
             have w1:IntKind.wrap .i64 ((least:Int)+((0:Nat):Int))=((least:Nat):Int):=by
              rw[show(least:Int)+((0:Nat):Int)=((least:Nat):Int)by omega];exact yJ (by omega)
             have n7:((700:Int) !=0)=true:=rfl
             refine⟨[(0,.aH c.f 0),(1,yT ll),(2,yT dl),(10,I least),(58,.bool true)],h2,ov,_,.inl (wM ?_),k2,s3.trans k3,rfl,by decide⟩
             simp only[I,Bw]at *
             simp only[AP.f20L1,go_sem,gf,s1,gf1,c256,QL c1,lo,n0,k1,w1,gf2,n7]
theorem Fl {c:FC} {S:SS} {h:H} {ov:AV} (ll dl:List Int) (hll:ll.length<1000) (hdl:dl.length<1000) (st:Ft c S h ov) (he:S.e=0):
 ∃h' ov' S',aV AP.A 20 [.aH c.f 0,yT ll,yT dl] h=some (.cf [],h')∧Ft c S' h' ov'∧FF c h ov h' ov'∧Fin (zX c.text c.most ll dl (8* c.text.size+1) S.at_ S.out) S':=by
 obtain⟨e',h',ov',S',q1,q2,q3,q4⟩:=Bn ll dl hll hdl (8* c.text.size+1) S h ov st he (by omega)
 refine⟨h',ov',S', ?_,q2,q3,q4⟩
 rcases q1 with q1|q1
 · refine wF (fn:=AP.f20) (e:=e') (vs:=[]) rfl rfl rfl ?_ rfl
   simp only[AP.f20,go_sem,vp,q1]
 · refine zh (fn:=AP.f20) (e:=[]) (vs:=[]) rfl rfl rfl ?_ rfl
   simp only[AP.f20,go_sem,vp,q1]
theorem Iu (h:H):aV AP.A 32 [] h=some (zj y7,h):=by
 have b:bh [] (.dw 1 19 [.int .i64 0] [(0,(.c (.int .i64 16))),(1,(.c (.int .i64 17))),(2,(.c (.int .i64 18))),(3,(.c (.int .i64 0))),(4,(.c (.int .i64 8))),(5,(.c (.int .i64 7))),(6,(.c (.int .i64 9))),(7,(.c (.int .i64 6))),(8,(.c (.int .i64 10))),(9,(.c (.int .i64 5))),(10,(.c (.int .i64 11))),(11,(.c (.int .i64 4))),(12,(.c (.int .i64 12))),(13,(.c (.int .i64 3))),(14,(.c (.int .i64 13))),(15,(.c (.int .i64 2))),(16,(.c (.int .i64 14))),(17,(.c (.int .i64 1))),(18,(.c (.int .i64 15)))])=some (ints y7,fun i=>.aI i 0 19 1):=rfl
 refine wX (fn:=AP.f32) (h2:=h.eY.alloc (ints y7)) (e:=[(0,.aI h.next 0 19 1)]) (vs:=[.aI h.next 0 19 1]) rfl rfl rfl ?_ rfl ?_
 · have hn:h.eY.next=h.next:=rfl
   simp only[AP.f32,go_sem,b,hn]
 · show snap (h.eY.alloc (ints y7)).get h.next 16 true (.aI h.next 0 19 1)=_
   unfold snap
   rw[if_neg (by omega),H.bc,if_pos (show h.next=h.eY.next from rfl),xX,if_pos (by decide)]
   rw[show((ints y7).drop 0).take (19* 1)=ints y7 from rfl,zJ];rfl
theorem Aj {h:H} {v:AV} {l:List Int} {fl:Nat} (o:pP h v (ints l)) (hf:fl≤h.floor) (hl:l≠[]):snap h.get fl 16 true v=some (zj l):=by
 rcases o with ⟨_,q⟩|⟨id,rfl,q,h2,_⟩
 · exact absurd (List.map_eq_nil_iff.1 q) hl
 · unfold snap
   rw[if_neg (by omega),q,xX,if_pos (by omega)]
   rw[QX,Q3,List.take_length,zJ]
   simp [zj]
def fixF (i:Nat):Int:=if 144≤i∧i<256 then 9 else if 256≤i∧i<280 then 7 else 8
theorem CN : ∀ (m i : Nat) (h : H) (v : AV), i + m = 288 → pP h v (ints ((List.range i).map fixF)) → h.floor ≤ h.next →
 ∃e' h' v',Lp AP.A [1,2] AP.f22L0 [(1,v),(2,I i)] h=some (.exit 0,e',h')∧look e' 1=v'∧pP h' v' (ints ((List.range 288).map fixF))∧h'.floor=h.floor
 | 0, i, h, v, hm, o, hf => by
   obtain rfl:i=288:=by omega
   refine⟨[(1,v),(2,I 288),(5,.bool false)],h,v,wh ?_,rfl,o,rfl⟩
   have c1:¬(((288:Nat):Int)<288):=by omega
   simp only[I]at *
   simp only[AP.f22L0,go_sem,QL c1]
   rfl
 | m + 1, i, h, v, hm, o, hf => by
   have c1:(i:Int)<288:=by omega
   have w1:IntKind.wrap .i64 ((i:Int)+1)=((i+1:Nat):Int):=yJ (n:=i+1) (by omega)
   obtain⟨g,hg⟩:∃g,g=h.alloc [I (fixF i)]:=⟨_,rfl⟩
   have og:pP g v (ints ((List.range i).map fixF)):=o.mono (by rw[hg];simp) fun j hj=>by have:=o.lt hj;rw[hg,H.bc,if_neg (by omega)]
   have hgf:g.floor≤g.next:=by rw[hg];simp;omega
   obtain⟨v',h2,r1,r2,r3,r4,r5,r6⟩:=og.app hgf (z:=8) (I (fixF i)) rfl (by simp [roomy];omega)
   have src:aW g 1 (.aI h.next 0 1 1)=some (1,[I (fixF i)]):=by simp [aW,hg,H.bc]
   have ap:mV g 1 8 v (.aI h.next 0 1 1)=some (v',h2):=by unfold mV;rw[src,xX];exact r1
   have bt:∀e:Env,look e 21=.int .i64 (fixF i)→bh e (.dw 1 1 [.int .i64 0] [(0,.t 21)])=some ([.int .i64 (fixF i)],fun i=>.aI i 0 1 1):=by
    intro e q;simp only[bh,QY,Q2,vt,q];rfl
   have hr:ints ((List.range i).map fixF)++[I (fixF i)]=ints ((List.range (i+1)).map fixF):=by
    rw[List.range_succ,List.map_append,su];rfl
   rw[hr]at r2
   have step:aP (aV AP.A) bL AP.f22L0 (aC [(1,v),(2,I i)] [1,2]) h=some (.normal,[(1,v'),(2,I (i+1:Nat))],h2):=by
    clear hr
    by_cases q1:144≤i
    · have d1:(144:Int)≤i:=by omega
      by_cases q2:i<256
      · have d2:(i:Int)<256:=by omega
        have hx:fixF i=9:=by rw[fixF,if_pos ⟨q1,q2⟩]
        rw[hx]at hg bt
        simp only[I]at *
        simp only[AP.f22L0,go_sem,QM c1,QM d1,QM d2]
        rw[bt _ rfl]
        simp only[go_sem,←hg,ap,w1]
      · have d2:¬(i:Int)<256:=by omega
        have d3:(256:Int)≤i:=by omega
        by_cases q3:i<280
        · have d4:(i:Int)<280:=by omega
          have hx:fixF i=7:=by rw[fixF,if_neg (by omega),if_pos ⟨by omega,q3⟩]
          rw[hx]at hg bt
          simp only[I]at *
          simp only[AP.f22L0,go_sem,QM c1,QM d1,QL d2,QM d3,QM d4]
          rw[bt _ rfl]
          simp only[go_sem,←hg,ap,w1]
        · have d4:¬(i:Int)<280:=by omega
          have hx:fixF i=8:=by rw[fixF,if_neg (by omega),if_neg (by omega)]
          rw[hx]at hg bt
          simp only[I]at *
          simp only[AP.f22L0,go_sem,QM c1,QM d1,QL d2,QM d3,QL d4]
          rw[bt _ rfl]
          simp only[go_sem,←hg,ap,w1]
    · have d1:¬(144:Int)≤i:=by omega
      have d3:¬(256:Int)≤i:=by omega
      have hx:fixF i=8:=by rw[fixF,if_neg (by omega),if_neg (by omega)]
      rw[hx]at hg bt
      simp only[I]at *
      simp only[AP.f22L0,go_sem,QM c1,QL d1,QL d3]
      rw[bt _ rfl]
      simp only[go_sem,←hg,ap,w1]
   obtain⟨e',h',v2,s1,s2,s3,s4⟩:=CN m (i+1) h2 v' (by omega) r2 (by rw[r3];exact yF hgf r4)
   exact⟨e',h',v2,wj step s1,s2,s3,by rw[s4,r3,hg];simp⟩
theorem Hm:(List.range 288).map fixF=zq:=by decide+kernel
theorem HY (h:H):aV AP.A 22 [] h=some (zj zq,h):=by
 obtain⟨e',h',v',s1,s2,s3,s4⟩:=CN 288 0 h.eY .aT rfl (.inl ⟨rfl,rfl⟩) (ya _)
 have s1':Lp AP.A [1,2] AP.f22L0 [(1,.aT),(2,I 0)] h.eY=some (.exit 0,e',h'):=s1
 clear s1
 rw[Hm]at s3
 refine wX (fn:=AP.f22) (h2:=h') (e:=[(0,v')]) (vs:=[v']) rfl rfl rfl ?_ rfl ?_
 · simp only[I]at *
   simp only[AP.f22,go_sem,vp,s1',s2]
 · exact Aj s3 (by rw[s4];exact ya _) (by intro e;have:=Q5 List.length e;rw[AG]at this;simp at this)
theorem Dn (id : Nat) : ∀ (m i : Nat) (h : H), i + m = 30 → h.get id = some (ints (List.replicate i 5 ++ List.replicate m 0)) → h.floor ≤ id →
 ∃e' h',Lp AP.A [1,2] AP.f23L0 [(1,.aI id 0 30 1),(2,I i)] h=some (.exit 0,e',h')∧look e' 1=.aI id 0 30 1∧h'.get id=some (ints (List.replicate 30 5))∧h'.floor=h.floor
 | 0, i, h, hm, hg, hf => by
   obtain rfl:i=30:=by omega
   refine⟨[(1,.aI id 0 30 1),(2,I 30),(5,.bool false)],h,wh ?_,rfl,hg,rfl⟩
   have c1:¬(((30:Nat):Int)<30):=by omega
   simp only[I]at *
   simp only[AP.f23L0,go_sem,QL c1]
   rfl
 | m + 1, i, h, hm, hg, hf => by
   have c1:(i:Int)<30:=by omega
   have w1:IntKind.wrap .i64 ((i:Int)+1)=((i+1:Nat):Int):=yJ (n:=i+1) (by omega)
   have ia:iy 1 (.aI id 0 30 1) (I i)=some (.aH id i):=by simp [iy,mI (show i<30 by omega)]
   have hset:(ints (List.replicate i 5++List.replicate (m+1) 0)).set i (I 5)=ints (List.replicate (i+1) 5++List.replicate m 0):=by
    have h1:(List.replicate i (5:Int)++List.replicate (m+1) 0).set i 5=List.replicate (i+1) 5++List.replicate m 0:=by
     rw[List.set_append_right _ _ (by simp),QV,Nat.sub_self,List.replicate_succ,List.set_cons_zero,List.replicate_succ',List.append_assoc];rfl
    rw[←h1];simp [ints,List.map_set]
   have hst:wZ h id i 1 [I 5] (some (ints (List.replicate i 5++List.replicate (m+1) 0)))=some (h.set id (ints (List.replicate (i+1) 5++List.replicate m 0))):=by
    rw[xG hf (by rw[sD];simp) rfl,hset]
   have step:aP (aV AP.A) bL AP.f23L0 (aC [(1,.aI id 0 30 1),(2,I i)] [1,2]) h=some (.normal,[(1,.aI id 0 30 1),(2,I (i+1:Nat))],h.set id (ints (List.replicate (i+1) 5++List.replicate m 0))):=by
    clear hset
    generalize ints (List.replicate (i+1) 5++List.replicate m 0)=L1 at *
    generalize ints (List.replicate i 5++List.replicate (m+1) 0)=L0 at *
    simp only[I]at *
    simp only[AP.f23L0,go_sem,QM c1,ia,hg,hst,w1]
   obtain⟨e',h',s1,s2,s3,s4⟩:=Dn id m (i+1) _ (by omega) (by rw[H.eh,if_pos rfl,hg];rfl) (by simpa using hf)
   exact⟨e',h',wj step s1,s2,s3,by rw[s4];simp⟩
theorem Jt (h:H):aV AP.A 23 [] h=some (zj (List.replicate 30 5),h):=by
 obtain⟨h1,hh1⟩:∃g,g=h.eY.alloc (ints (List.replicate 30 0)):=⟨_,rfl⟩
 have hg:h1.get h.next=some (ints (List.replicate 0 5++List.replicate 30 0)):=by rw[hh1,H.bc,if_pos (show h.next=h.eY.next from rfl)];rfl
 obtain⟨e',h',s1,s2,s3,s4⟩:=Dn h.next 30 0 h1 rfl hg (by rw[hh1];simp)
 have s1':Lp AP.A [1,2] AP.f23L0 [(1,.aI h.next 0 30 1),(2,I 0)] h1=some (.exit 0,e',h'):=s1
 clear s1
 have bt:∀e:Env,bh e (.jU 1 8 [.int .i64 0] (.c (.int .i64 30)) (.c (.int .i64 30)))=some (ints (List.replicate 30 0),fun i=>.aI i 0 30 1):=fun _=>rfl
 have hn:h.eY.next=h.next:=rfl
 refine wX (fn:=AP.f23) (h2:=h') (e:=[(0,.aI h.next 0 30 1)]) (vs:=[.aI h.next 0 30 1]) rfl rfl rfl ?_ rfl ?_
 · simp only[I]at *
   simp only[AP.f23,go_sem,bt,←hh1,hn,vp,s1',s2]
 · exact Aj (l:=List.replicate 30 5) (.inr ⟨h.next,rfl,s3,by rw[s4,hh1];simp,by decide⟩) (by rw[s4,hh1];simp) (by decide)
theorem El {x:AV} {l:List Int} (hl:l.length<100000) (h:H) (rd:Rd h x (ints l)):∀(q p:List Int),l=p++q→
 (∃e',Lp AP.A [0,3] AP.f67L0 [(0,x),(3,I p.length)] h=some (.exit 0,e',h)∧(ints q).any BH=false)∨(∃e',Lp AP.A [0,3] AP.f67L0 [(0,x),(3,I p.length)] h=some (.ret,e',h)∧look e' 2=.bool false∧(ints q).any BH=true)
 | [], p, hp => by
   have ln:=rd.len
   rw[sD]at ln
   left
   refine⟨[(0,x),(3,I p.length),(15,.bool false)],wh ?_,rfl⟩
   have c1:¬(p.length:Int)<(l.length:Int):=by rw[hp];simp
   simp only[I]at *
   simp only[AP.f67L0,go_sem,ln,QL c1]
 | y :: q, p, hp => by
   have ln:=rd.len
   rw[sD]at ln
   have hlen:l.length=p.length+(q.length+1):=by rw[hp];simp
   have c1:(p.length:Int)<(l.length:Int):=by omega
   have hv:(ints l)[p.length]?=some (I y):=vP (by rw[hp];simp)
   obtain⟨ad,p1,p2⟩:=rd.elem hv
   have p3:=p2 h (fun _ _ q=>q)
   have w1:IntKind.wrap .i64 ((p.length:Int)+1)=(((p++[y]).length:Nat):Int):=by
    rw[yH];exact yJ (n:=p.length+1) (by omega)
   have hany:(ints (y::q)).any BH=(BH (I y)||(ints q).any BH):=rfl
   rw[hany]
   by_cases d1:y<0
   · right
     refine⟨[(2,.bool false)],wM ?_,rfl,by simp [BH,I,d1]⟩
     simp only[I]at *
     simp only[AP.f67L0,go_sem,ln,QM c1,p1,p3,QM d1]
   by_cases d2:15<y
   · right
     refine⟨[(2,.bool false)],wM ?_,rfl,by simp [BH,I,d2]⟩
     simp only[I]at *
     simp only[AP.f67L0,go_sem,ln,QM c1,p1,p3,QL d1,QM d2]
   have hb:BH (I y)=false:=by simp [BH,I];omega
   have step:aP (aV AP.A) bL AP.f67L0 (aC [(0,x),(3,I p.length)] [0,3]) h=some (.normal,[(0,x),(3,I (p++[y]).length)],h):=by
    clear hany hb
    generalize (p++[y]).length=B at *
    simp only[I]at *
    simp only[AP.f67L0,go_sem,ln,QM c1,p1,p3,QL d1,QL d2,w1]
   rw[hb,Bool.false_or]
   rcases El hl h rd q (p++[y]) (by rw[hp];simp)with ⟨e',r1,r2⟩|⟨e',r1,r2,r3⟩
   · exact .inl ⟨e',wj step r1,r2⟩
   · exact .inr ⟨e',wj step r1,r2,r3⟩
theorem MN (h:H) (x:AV) (l:List Int) (hl:l.length<100000) (rd:Rd h x (ints l)):aV AP.A 67 [x] h=some (.bool (CX l),h):=by
 have rd':=rd.mono (yV h)
 have ln:=rd.len
 rw[sD]at ln
 unfold CX
 by_cases c1:l.length<1
 · refine wX (fn:=AP.f67) (h2:=h.eY) (e:=[(2,.bool false)]) rfl rfl rfl ?_ rfl (by rw[QL (show¬1≤l.length by omega)];rfl)
   have c1':(l.length:Int)<1:=by omega
   simp only[I]at *
   simp only[AP.f67,go_sem,ln,QM c1']
 have c1':¬(l.length:Int)<1:=by omega
 by_cases c2:288<l.length
 · refine wX (fn:=AP.f67) (h2:=h.eY) (e:=[(2,.bool false)]) rfl rfl rfl ?_ rfl (by rw[QL (show¬l.length≤288 by omega),QS];rfl)
   have c2':(288:Int)<(l.length:Int):=by omega
   simp only[I]at *
   simp only[AP.f67,go_sem,ln,QL c1',QM c2']
 have c2':¬(288:Int)<(l.length:Int):=by omega
 rw[QM (show 1≤l.length by omega),QM (show l.length≤288 by omega)]
 rcases El hl h.eY rd' l [] rfl with ⟨e',r1,r2⟩|⟨e',r1,r2,r3⟩
 · have r1':Lp AP.A [0,3] AP.f67L0 [(0,x),(3,I 0)] h.eY=some (.exit 0,e',h.eY):=r1
   clear r1
   rw[r2]
   refine wX (fn:=AP.f67) (h2:=h.eY) (e:=[(2,.bool true)]) rfl rfl rfl ?_ rfl rfl
   simp only[I]at *
   simp only[AP.f67,go_sem,ln,QL c1',QL c2',vp,r1']
 · have r1':Lp AP.A [0,3] AP.f67L0 [(0,x),(3,I 0)] h.eY=some (.ret,e',h.eY):=r1
   clear r1
   rw[r3]
   refine wX (fn:=AP.f67) (h2:=h.eY) (e:=e') (vs:=[.bool false]) rfl rfl rfl ?_ (by simp only[AP.f67,di,pG,r2];rfl) rfl
   simp only[I]at *
   simp only[AP.f67,go_sem,ln,QL c1',QL c2',vp,r1']
theorem Du (p:List Int) (x:Int):∀n:Nat,zd (p++[x]) n=zd p n-(if 1≤x∧x≤n then 2^(n-x.toNat)else 0)
 | 0 => by
   rw[if_neg (by omega)];simp [zd]
 | n + 1 => by
   have e1:zd (p++[x]) (n+1)=zd (p++[x]) n* 2-Am (p++[x]) (n+1):=rfl
   have e2:zd p (n+1)=zd p n* 2-Am p (n+1):=rfl
   rw[e1,e2,Du p x n,B5]
   by_cases h1:x=((n+1:Nat):Int)
   · rw[if_neg (by omega),if_pos ⟨by omega,h1⟩,if_pos (by omega)]
     rw[show n+1-x.toNat=0 by omega];simp;omega
   · rw[if_neg (show¬(n+1≠0∧x=((n+1:Nat):Int))from fun q=>h1 q.2)]
     by_cases h2:1≤x∧x≤(n:Int)
     · rw[if_pos h2,if_pos (by omega),show n+1-x.toNat=(n-x.toNat)+1 by omega,Int.pow_succ];omega
     · rw[if_neg h2,if_neg (by omega)];omega
theorem EA {x : AV} {l : List Int} (hl : l.length < 100000) (hr : zV l) (h : H) (rd : Rd h x (ints l)) : ∀ (q p : List Int), l = p ++ q →
 ∃e',Lp AP.A [0,3,4] AP.f68L0 [(0,x),(3,I (32768-zd p 15)),(4,I p.length)] h=some (.exit 0,e',h)∧look e' 3=I (32768-zd l 15)
 | [], p, hp => by
   rw[QT]at hp;subst hp
   have ln:=rd.len
   rw[sD]at ln
   refine⟨[(0,x),(3,I (32768-zd l 15)),(4,I l.length),(8,.bool false)],wh ?_,rfl⟩
   have c1:¬(l.length:Int)<(l.length:Int):=by omega
   simp only[I]at *
   simp only[AP.f68L0,go_sem,ln,QL c1]
 | y :: q, p, hp => by
   have ln:=rd.len
   rw[sD]at ln
   have hlen:l.length=p.length+(q.length+1):=by rw[hp];simp
   have c1:(p.length:Int)<(l.length:Int):=by omega
   have hv:(ints l)[p.length]?=some (I y):=vP (by rw[hp];simp)
   have hy:=hr y (by rw[hp];simp)
   obtain⟨ad,p1,p2⟩:=rd.elem hv
   have p3:=p2 h (fun _ _ q=>q)
   have w1:IntKind.wrap .i64 ((p.length:Int)+1)=(((p++[y]).length:Nat):Int):=by
    rw[yH];exact yJ (n:=p.length+1) (by omega)
   have hsn:=Du p y 15
   have hbd:=FD (show p.length<100000 by omega) 15
   have step:aP (aV AP.A) bL AP.f68L0 (aC [(0,x),(3,I (32768-zd p 15)),(4,I p.length)] [0,3,4]) h=some (.normal,[(0,x),(3,I (32768-zd (p++[y]) 15)),(4,I (p++[y]).length)],h):=by
    by_cases d1:0<y
    · obtain⟨yn,hyn⟩:∃n:Nat,y=n:=QQ hy.1
      subst hyn
      rw[if_pos (by omega),Q0]at hsn
      have w2:IntKind.wrap .i64 (15-(yn:Int))=((15-yn:Nat):Int):=by rw[show 15-(yn:Int)=((15-yn:Nat):Int)by omega];exact yJ (by omega)
      have hp15:2^(15-yn)≤2^15:=QO (by omega) (by omega)
      have s1:rL .shl .i64 1 ((15-yn:Nat):Int)=some (.int .i64 ((2^(15-yn):Nat):Int)):=by
       have:=Ay (a:=1) (s:=15-yn) (by omega) (by omega)
       rw[Nat.one_mul]at this;exact this
      have hpc:((2^(15-yn):Nat):Int)=2^(15-yn):=by simp
      have hpos:(0:Int)≤2^(15-yn):=Int.pow_nonneg (by omega)
      have w3:IntKind.wrap .i64 (32768-zd p 15+((2^(15-yn):Nat):Int))=32768-zd (p++[(yn:Int)]) 15:=by
       rw[show 32768-zd p 15+((2^(15-yn):Nat):Int)=32768-zd (p++[(yn:Int)]) 15 by rw[hsn,hpc];omega]
       refine wJ ?_ ?_
       · rw[hsn];rw[←hpc];omega
       · rw[hsn];rw[←hpc];omega
      clear hsn hpc hbd hp15
      generalize (p++[(yn:Int)]).length=B at *
      generalize zd (p++[(yn:Int)]) 15=L2 at *
      generalize zd p 15=L1 at *
      generalize 2^(15-yn)=PW at *
      simp only[I]at *
      simp only[AP.f68L0,go_sem,ln,QM c1,p1,p3,QM d1,w2,s1,w3,w1]
    · rw[if_neg (by omega),Int.sub_zero]at hsn
      rw[hsn]
      clear hsn hbd
      generalize (p++[y]).length=B at *
      simp only[I]at *
      simp only[AP.f68L0,go_sem,ln,QM c1,p1,p3,QL d1,w1]
   obtain⟨e',r1,r2⟩:=EA hl hr h rd q (p++[y]) (by rw[hp];simp)
   exact⟨e',wj step r1,r2⟩
theorem MS (h:H) (x:AV) (l:List Int) (hl:l.length<100000) (hr:zV l) (rd:Rd h x (ints l)):aV AP.A 68 [x] h=some (I (32768-zd l 15),h):=by
 obtain⟨e',r1,r2⟩:=EA hl hr h.eY (rd.mono (yV h)) l [] rfl
 have r1':Lp AP.A [0,3,4] AP.f68L0 [(0,x),(3,I 0),(4,I 0)] h.eY=some (.exit 0,e',h.eY):=r1
 clear r1
 refine wX (fn:=AP.f68) (h2:=h.eY) (e:=[(2,I (32768-zd l 15))]) rfl rfl rfl ?_ rfl rfl
 simp only[I]at *
 simp only[AP.f68,go_sem,vp,r1',r2]
theorem Df (h : H) (x : AV) (l : List Int) (hl : l.length < 100000) (rd : Rd h x (ints l)) : aV AP.A 52 [x] h = some (I (ze l), h) := by
 have rd':=rd.mono (yV h)
 have k1:=MN h.eY x l hl rd'
 unfold ze
 by_cases hm:CX l=true
 · have k2:=MS h.eY x l hl (Es hm) rd'
   rw[hm]at k1 ⊢
   rw[if_neg (by decide)]
   by_cases c1:zd l 15<0
   · rw[if_pos c1]
     have d1:32768<32768-zd l 15:=by omega
     refine wX (fn:=AP.f52) (h2:=h.eY) (e:=[(2,I 301)]) rfl rfl rfl ?_ rfl rfl
     simp only[I]at *
     simp only[AP.f52,go_sem,k1,k2,QM d1]
   · rw[if_neg c1]
     have d1:¬32768<32768-zd l 15:=by omega
     by_cases c2:0<zd l 15
     · rw[if_pos c2]
       have d2:32768-zd l 15<32768:=by omega
       refine wX (fn:=AP.f52) (h2:=h.eY) (e:=[(2,I 302)]) rfl rfl rfl ?_ rfl rfl
       simp only[I]at *
       simp only[AP.f52,go_sem,k1,k2,QL d1,QM d2]
     · rw[if_neg c2]
       have d2:¬32768-zd l 15<32768:=by omega
       refine wX (fn:=AP.f52) (h2:=h.eY) (e:=[(2,I 0)]) rfl rfl rfl ?_ rfl rfl
       simp only[I]at *
       simp only[AP.f52,go_sem,k1,k2,QL d1,QL d2]
 · have hm':CX l=false:=by simpa using hm
   rw[hm']at k1 ⊢
   rw[if_pos rfl]
   refine wX (fn:=AP.f52) (h2:=h.eY) (e:=[(2,I 300)]) rfl rfl rfl ?_ rfl rfl
   simp only[I]at *
   simp only[AP.f52,go_sem,k1]
theorem Br {x : AV} {l : List Int} (hl : l.length < 100000) (hr : zV l) (h : H) (rd : Rd h x (ints l)) : ∀ (q p : List Int) (m b s : Int), l = p ++ q → 0 ≤ m → m ≤ p.length → m ≤ s → (m = 0 → s = 0) → (m = 1 → b = s) →
 ∃e' m' b',Lp AP.A [0,3,4,5] AP.f54L0 [(0,x),(3,I m),(4,I b),(5,I p.length)] h=some (.exit 0,e',h)∧look e' 3=I m'∧look e' 4=I b'∧0≤m'∧m'≤Gt q s∧(m'=0→Gt q s=0)∧(m'=1→b'=Gt q s)
 | [], p, m, b, s, hp, h1, h2, h3, h4, h5 => by
   have ln:=rd.len
   rw[sD]at ln
   refine⟨[(0,x),(3,I m),(4,I b),(5,I p.length),(9,.bool false)],m,b,wh ?_,rfl,rfl,h1,h3,h4,h5⟩
   have c1:¬(p.length:Int)<(l.length:Int):=by rw[hp];simp
   simp only[I]at *
   simp only[AP.f54L0,go_sem,ln,QL c1]
 | y :: q, p, m, b, s, hp, h1, h2, h3, h4, h5 => by
   have ln:=rd.len
   rw[sD]at ln
   have hlen:l.length=p.length+(q.length+1):=by rw[hp];simp
   have c1:(p.length:Int)<(l.length:Int):=by omega
   have hv:(ints l)[p.length]?=some (I y):=vP (by rw[hp];simp)
   have hy:=hr y (by rw[hp];simp)
   obtain⟨ad,p1,p2⟩:=rd.elem hv
   have p3:=p2 h (fun _ _ q=>q)
   have w1:IntKind.wrap .i64 ((p.length:Int)+1)=(((p++[y]).length:Nat):Int):=by
    rw[yH];exact yJ (n:=p.length+1) (by omega)
   by_cases d1:0<y
   · have w2:IntKind.wrap .i64 (m+1)=m+1:=wJ (by omega) (by omega)
     have step:aP (aV AP.A) bL AP.f54L0 (aC [(0,x),(3,I m),(4,I b),(5,I p.length)] [0,3,4,5]) h=some (.normal,[(0,x),(3,I (m+1)),(4,I y),(5,I (p++[y]).length)],h):=by
      generalize hB:(p++[y]).length=B at *
      simp only[I]at *
      simp only[AP.f54L0,go_sem,ln,QM c1,p1,p3,QM d1,w2,w1]
     obtain⟨e',m',b',r1,r2⟩:=Br hl hr h rd q (p++[y]) (m+1) y (s+y) (by rw[hp];simp) (by omega) (by simp;omega) (by omega) (by omega) (by intro e;have:=h4 (by omega);omega)
     exact⟨e',m',b',wj step r1,r2⟩
   · have hy0:y=0:=by omega
     have step:aP (aV AP.A) bL AP.f54L0 (aC [(0,x),(3,I m),(4,I b),(5,I p.length)] [0,3,4,5]) h=some (.normal,[(0,x),(3,I m),(4,I b),(5,I (p++[y]).length)],h):=by
      generalize hB:(p++[y]).length=B at *
      simp only[I]at *
      simp only[AP.f54L0,go_sem,ln,QM c1,p1,p3,QL d1,w1]
     obtain⟨e',m',b',r1,r2⟩:=Br hl hr h rd q (p++[y]) m b (s+y) (by rw[hp];simp) h1 (by simp;omega) (by omega) (by intro e;have:=h4 e;omega) (by intro e;have:=h5 e;omega)
     exact⟨e',m',b',wj step r1,r2⟩
theorem IP (h:H) (x:AV) (l:List Int) (hl:l.length<100000) (hr:zV l) (rd:Rd h x (ints l)):aV AP.A 54 [x] h=some (.bool (zu l),h):=by
 obtain⟨e',m',b',r1,r2,r3,r4,r5,r6,r7⟩:=Br hl hr h.eY (rd.mono (yV h)) l [] 0 0 0 rfl (by omega) (by simp) (by omega) (by intro _;rfl) (by omega)
 have r1':Lp AP.A [0,3,4,5] AP.f54L0 [(0,x),(3,I 0),(4,I 0),(5,I 0)] h.eY=some (.exit 0,e',h.eY):=r1
 clear r1
 refine wX (fn:=AP.f54) (h2:=h.eY) (e:=[(2,.bool (zu l))]) rfl rfl rfl ?_ rfl rfl
 unfold zu
 generalize Gt l 0=s at *
 by_cases c0:m'=0
 · have d0:=xc c0
   have hs:s≤1:=by have:=r6 c0;omega
   rw[QM hs]
   simp only[I]at *
   simp only[AP.f54,go_sem,vp,r1',r2,r3,d0]
 have d0:=xb c0
 by_cases c1:m'=1
 · have d1:=xc c1
   have hb:=r7 c1
   by_cases c2:b'=1
   · have d2:=xc c2
     rw[QM (show s≤1 by omega)]
     simp only[I]at *
     simp only[AP.f54,go_sem,vp,r1',r2,r3,d0,d1,d2]
   · have d2:=xb c2
     rw[QL (show¬s≤1 by omega)]
     simp only[I]at *
     simp only[AP.f54,go_sem,vp,r1',r2,r3,d0,d1,d2]
 · have d1:=xb c1
   rw[QL (show¬s≤1 by omega)]
   simp only[I]at *
   simp only[AP.f54,go_sem,vp,r1',r2,r3,d0,d1]
theorem DF {c:FC} {S:SS} {h:H} {ov:AV} (st:Ft c S h ov) (b:AV) (many times n:Int) (v:AV) (i:Int) (hs:times≤i∨(i<times∧S.e≠0)):
 ∃e',Lp AP.A [0,1,2,7,9,10,11] AP.f53L0 [(0,.aH c.f 0),(1,b),(2,I many),(7,v),(9,I times),(10,I n),(11,I i)] h=some (.exit 3,e',h)∧look e' 0=.aH c.f 0∧look e' 1=b∧look e' 2=I many∧look e' 7=v:=by
 have gf:=st.gf
 refine⟨[(0,.aH c.f 0),(1,b),(2,I many),(7,v),(9,I times),(10,I n),(11,I i),(83,.bool false)],wh ?_,rfl,rfl,rfl,rfl⟩
 rcases hs with hn|⟨hn,he⟩
 · have c1:¬i<times:=by omega
   simp only[I]at *
   simp only[AP.f53L0,go_sem,QL c1]
 · have c2:=xb he
   simp only[I]at *
   simp only[AP.f53L0,go_sem,QM hn,gf,c2]
theorem FN {c:FC} (h0:H) {S:SS} {ov:AV} (he:S.e=0) (b:AV) (many:Int) (n:Int) (times:Nat) (ht:times≤1000):∀(m i:Nat) (acc:List Int) (h:H) (v:AV),i+m=times→Ft c S h ov→FF c h0 ov h ov→pP h v (ints acc)→acc.length<100000+i→(∀j,v.id?=some j→h0.next≤j)→(∀j,(j=c.f∨ov.id?=some j)→j<h0.next)→
 ∃e' h' v',Lp AP.A [0,1,2,7,9,10,11] AP.f53L0 [(0,.aH c.f 0),(1,b),(2,I many),(7,v),(9,I times),(10,I n),(11,I i)] h=some (.exit 3,e',h')∧look e' 0=.aH c.f 0∧look e' 1=b∧look e' 2=I many∧look e' 7=v'∧Ft c S h' ov∧FF c h0 ov h' ov∧pP h' v' (ints (acc++List.replicate m n))∧∀j,v'.id?=some j→h0.next≤j
 | 0, i, acc, h, v, hm, st, fr, o, hal, hid, hlo => by
   obtain⟨e',q1,q2,q3,q4,q5⟩:=DF st b many times n v i (.inl (by omega))
   exact⟨e',h,v,q1,q2,q3,q4,q5,st,fr,by simpa using o,hid⟩
 | m + 1, i, acc, h, v, hm, st, fr, o, hal, hid, hlo => by
   have gf:=st.gf
   rw[he]at gf
   have c1:(i:Int)<times:=by omega
   have w1:IntKind.wrap .i64 ((i:Int)+1)=((i+1:Nat):Int):=yJ (n:=i+1) (by omega)
   obtain⟨g,hg⟩:∃g,g=h.alloc [I n]:=⟨_,rfl⟩
   have al:=st.alloc [I n]
   rw[←hg]at al
   have og:pP g v (ints acc):=o.mono (by rw[hg];simp) fun j hj=>by have:=o.lt hj;rw[hg,H.bc,if_neg (by omega)]
   have hgf:=al.1.nx
   obtain⟨v',h2,r1,r2,r3,r4,r5,r6⟩:=og.app hgf (z:=8) (I n) rfl (by simp [roomy];omega)
   have src:aW g 1 (.aI h.next 0 1 1)=some (1,[I n]):=by simp [aW,hg,H.bc]
   have ap:mV g 1 8 v (.aI h.next 0 1 1)=some (v',h2):=by unfold mV;rw[src,xX];exact r1
   have bt:∀e:Env,look e 87=.int .i64 n→bh e (.dw 1 1 [.int .i64 0] [(0,.t 87)])=some ([.int .i64 n],fun i=>.aI i 0 1 1):=by
    intro e q;simp only[bh,QY,Q2,vt,q];rfl
   have step:aP (aV AP.A) bL AP.f53L0 (aC [(0,.aH c.f 0),(1,b),(2,I many),(7,v),(9,I times),(10,I n),(11,I i)] [0,1,2,7,9,10,11]) h=some (.normal,[(0,.aH c.f 0),(1,b),(2,I many),(7,v'),(9,I times),(10,I n),(11,I (i+1:Nat))],h2):=by
    simp only[I]at *
    simp only[AP.f53L0,go_sem,QM c1,gf]
    rw[bt _ rfl]
    simp only[go_sem,←hg,ap,w1]
   have frg:=fr.trans al.2
   have st2:Ft c S h2 ov:=al.1.AH r3 r4 fun j hj=>r5 j (fun e=>by have:=hid j e;have:=hlo j hj;omega) (by have:=hlo j hj;have:=frg.nx;omega)
   have fr2:FF c h0 ov h2 ov:=⟨r3.trans frg.fl,yF frg.nx r4,fun id i1 i2 i4=>by rw[r5 id (fun e=>by have:=hid id e;omega) (by have:=frg.nx;omega)];exact frg.CR id i1 i2 i4,fun j hj=>.inl hj⟩
   have hr:ints acc++[I n]=ints (acc++[n]):=by rw[su];rfl
   rw[hr]at r2
   obtain⟨e',h',v2,s1,s2,s3,s4,s5,s6,s7,s8,s9⟩:=FN h0 he b many n times ht m (i+1) (acc++[n]) h2 v' (by omega) st2 fr2 r2 (by simp;omega) (fun j hj=>by rw[r6]at hj;cases hj;exact frg.nx) hlo
   refine⟨e',h',v2,wj step s1,s2,s3,s4,s5,s6,s7, ?_,s9⟩
   rw[List.replicate_succ,show acc++n::List.replicate m n=acc++[n]++List.replicate m n by simp]
   exact s8
theorem BQ {c:FC} {S:SS} {h:H} {ov:AV} (st:Ft c S h ov) (b:AV) (many:Nat) {v:AV} {acc:List Int} (o:pP h v (ints acc)) (hs:many≤acc.length∨(acc.length<many∧S.e≠0)):
 ∃e',Lp AP.A [0,1,2,7] AP.f53L1 [(0,.aH c.f 0),(1,b),(2,I many),(7,v)] h=some (.exit 0,e',h)∧look e' 7=v:=by
 have gf:=st.gf
 have ln:=o.len
 rw[sD]at ln
 refine⟨[(0,.aH c.f 0),(1,b),(2,I many),(7,v),(22,.bool false)],wh ?_,rfl⟩
 rcases hs with hs|⟨hs,he⟩
 · have c1:¬(acc.length:Int)<many:=by omega
   simp only[I]at *
   simp only[AP.f53L1,go_sem,ln,QL c1]
 · have c1:(acc.length:Int)<many:=by omega
   have c2:=xb he
   simp only[I]at *
   simp only[AP.f53L1,go_sem,ln,QM c1,gf,c2]
theorem Gk {c : FC} {S2 : SS} {h2 : H} {ov : AV} (h0 : H) (cl : List Int) (many : Nat) (hm : many ≤ 400) {v : AV} {acc : List Int} (st : Ft c S2 h2 ov) (fr : FF c h0 ov h2 ov) (o : pP h2 v (ints acc)) (hal : acc.length < many) (hid : ∀ j, v.id? = some j → h0.next ≤ j) (hlo : ∀ j, (j = c.f ∨ ov.id? = some j) → j < h0.next) (n : Int) (times : Nat) (ht : times ≤ 1000) (he2 : S2.e = 0 ∨ S2.e = 700) (code : aK)
 (hcode:code=(.seq (.seq (.qZ [⟨(some 59),.mv (.t 0),none⟩,⟨(some 60),.qy (.t 59),none⟩,⟨(some 61),.qk 4 (.t 60),none⟩,⟨(some 62),.load false 1 (.t 61),none⟩,⟨(some 63),.bin .eql (.t 62) (.c (.int .i64 0)),none⟩,⟨(some 64),.mv (.t 63),none⟩,⟨(some 65),.mv (.t 7),(some (64,true))⟩,⟨(some 66),.len false (.t 65),(some (64,true))⟩,⟨(some 67),.mv (.t 9),(some (64,true))⟩,⟨(some 68),.bin .add (.t 66) (.t 67),(some (64,true))⟩,⟨(some 69),.mv (.t 2),(some (64,true))⟩,⟨(some 70),.bin .gtr (.t 68) (.t 69),(some (64,true))⟩,⟨(some 71),.pick (.t 64) (.t 70) (.c (.bool false)),none⟩] [0,1,2,7,9,10,71]) (.cond (.t 71) (.qZ [⟨(some 72),.mv (.t 0),none⟩,⟨(some 73),.call (.c (.fn 25 [] [])) [(.t 72)],none⟩] [0,1,2,7,9,10]) (.skip) [0,1,2,7,9,10])) (.seq (.qZ [⟨(some 11),.mv (.c (.int .i64 0)),none⟩] [0,1,2,7,9,10,11]) (.block 3 (.loop [0,1,2,7,9,10,11] AP.f53L0) [0,1,2,7])))):
 ∃ h3 S3 v3, aP (aV AP.A) bL code [(0, .aH c.f 0), (1, yT cl), (2, I many), (7, v), (9, I times), (10, I n)] h2 = some (.normal, [(0, .aH c.f 0), (1, yT cl), (2, I many), (7, v3)], h3) ∧ Ft c S3 h3 ov ∧ FF c h0 ov h3 ov ∧
   ((S2.e=0∧acc.length+times≤many∧S3=S2∧pP h3 v3 (ints (acc++List.replicate times n))∧∀j,v3.id?=some j→h0.next≤j)∨((S2.e≠0∨many<acc.length+times)∧S3.e=700∧v3=v∧pP h3 v (ints acc))):=by
 have gf:=st.gf
 have ln:=o.len
 rw[sD]at ln
 subst hcode
 have w1:IntKind.wrap .i64 ((acc.length:Int)+times)=((acc.length+times:Nat):Int):=by rw[show(acc.length:Int)+times=((acc.length+times:Nat):Int)by omega];exact yJ (by omega)
 by_cases he:S2.e=0
 · have ce:=xc he
   by_cases hgt:many<acc.length+times
   · have d1:(many:Int)<((acc.length+times:Nat):Int):=by omega
     obtain⟨h3,f1,f2,f3⟩:=Ae st
     have he3:(yQ 700 S2).e=700:=by simp [yQ,he]
     have hs:(times:Int)≤0∨((0:Int)<times∧(yQ 700 S2).e≠0):=by
      by_cases q:0<times
      · exact .inr ⟨by omega,by rw[he3];decide⟩
      · exact .inl (by omega)
     obtain⟨e',q1,q2,q3,q4,q5⟩:=DF f2 (yT cl) many times n v 0 hs
     have o3:pP h3 v (ints acc):=o.mono f3.fl fun j hj=>f3.CR j (o.lt hj) (fun e=>by have:=hid j hj;have:=hlo j (.inl e);omega) (fun e=>by have:=hid j hj;have:=hlo j (.inr e);omega)
     refine⟨h3,yQ 700 S2,v, ?_,f2,fr.trans f3,.inr ⟨.inr hgt,he3,rfl,o3⟩⟩
     simp only[I]at *
     simp only[go_sem,gf,ce,ln,w1,QM d1,f1,vp,q1,q2,q3,q4,q5]
   · have d1:¬(many:Int)<((acc.length+times:Nat):Int):=by omega
     obtain⟨e',h3,v3,q1,q2,q3,q4,q5,q6,q7,q8,q9⟩:=FN h0 he (yT cl) many n times ht times 0 acc h2 v (by omega) st fr o (by omega) hid hlo
     have q1':Lp AP.A [0,1,2,7,9,10,11] AP.f53L0 [(0,.aH c.f 0),(1,yT cl),(2,I many),(7,v),(9,I times),(10,I n),(11,I 0)] h2=some (.exit 3,e',h3):=q1
     clear q1
     refine⟨h3,S2,v3, ?_,q6,q7,.inl ⟨he,by omega,rfl,q8,q9⟩⟩
     simp only[I]at *
     simp only[go_sem,gf,ce,ln,w1,QL d1,vp,q1',q2,q3,q4,q5]
 · have ce:=xb he
   have he3:S2.e=700:=by rcases he2 with q|q;exact absurd q he;exact q
   have hs:(times:Int)≤0∨((0:Int)<times∧S2.e≠0):=by
    by_cases q:0<times
    · exact .inr ⟨by omega,he⟩
    · exact .inl (by omega)
   obtain⟨e',q1,q2,q3,q4,q5⟩:=DF st (yT cl) many times n v 0 hs
   refine⟨h2,S2,v, ?_,st,fr,.inr ⟨.inl he,he3,rfl,o⟩⟩
   simp only[I]at *
   simp only[go_sem,gf,ce,ln,w1,vp,q1,q2,q3,q4,q5]
theorem Dp {c : FC} (h0 : H) (cl : List Int) (hcl : cl.length < 1000) (many : Nat) (hm : many ≤ 400) : ∀ (f : Nat) (acc : List Int) (S : SS) (h : H) (ov v : AV), Ft c S h ov → S.e = 0 → 8 * c.text.size < S.at_ + f → FF c h0 ov h ov → pP h v (ints acc) → acc.length ≤ many → (∀ j, v.id? = some j → h0.next ≤ j) → (∀ j, (j = c.f ∨ ov.id? = some j) → j < h0.next) →
 ∃ h' S', Ft c S' h' ov ∧ FF c h0 ov h' ov ∧ match zf c.text cl many f acc S.at_ with
   |some (L,p)=>S'={S with at_:=p}∧L.length=many∧∃e' v',Lp AP.A [0,1,2,7] AP.f53L1 [(0,.aH c.f 0),(1,yT cl),(2,I many),(7,v)] h=some (.exit 0,e',h')∧look e' 7=v'∧pP h' v' (ints L)∧∀j,v'.id?=some j→h0.next≤j
   |none=>S'.e=700∧((∃e' v',Lp AP.A [0,1,2,7] AP.f53L1 [(0,.aH c.f 0),(1,yT cl),(2,I many),(7,v)] h=some (.exit 0,e',h')∧look e' 7=v')∨∃e',Lp AP.A [0,1,2,7] AP.f53L1 [(0,.aH c.f 0),(1,yT cl),(2,I many),(7,v)] h=some (.ret,e',h')∧look e' 6=.aT)
 |0,acc,S,h,ov,v,st,he,hk,fr,oa,hal,hid,hlo=>by have:=st.zC;omega
 | f + 1, acc, S, h, ov, v, st, he, hk, fr, oa, hal, hid, hlo => by
   by_cases hlt:acc.length<many
   · rw [zf, if_pos hlt]
     have gf:=st.gf
     rw[he]at gf
     have ln:=oa.len
     rw[sD]at ln
     have c1:(acc.length:Int)<many:=by omega
     obtain⟨h1,S1,y,s1,s2,s3,s4⟩:=Cv cl hcl st he
     have gf1:=s2.gf
     cases hz:Ai c.text cl 15 1 0 S.at_ with
     | none =>
       rw[hz]at s4
       obtain⟨s4,s5⟩:=s4
       have ce:(S1.e !=0)=true:=xh (by rw[s4];decide)
       refine⟨h1,S1,s2,fr.trans s3,s4,.inr ⟨[(6,.aT)],wM ?_,rfl⟩⟩
       simp only[I]at *
       simp only[AP.f53L1,go_sem,ln,QM c1,gf,s1,gf1,ce]
     | some yp =>
       obtain⟨z,p1⟩:=yp
       rw[hz]at s4
       obtain⟨s4,s5⟩:=s4
       subst s5 s4
       have zb:=Ad hz
       dsimp only at gf1 ⊢
       rw[he]at gf1
       have fr1:=fr.trans s3
       have hneq:∀i,v.id?=some i→i≠c.f∧ov.id?≠some i:=fun i hi=>by
        have:=hid i hi
        exact⟨fun e=>by have:=hlo i (.inl e);omega,fun e=>by have:=hlo i (.inr e);omega⟩
       have oa1:pP h1 v (ints acc):=oa.mono s3.fl fun i hi=>s3.CR i (oa.lt hi) (hneq i hi).1 (hneq i hi).2
       have ln1:=oa1.len
       rw[sD]at ln1
       have fin:∀(n:Int) (times:Nat) (h2:H) (S2:SS),times≤1000→Ft c S2 h2 ov→FF c h0 ov h2 ov→pP h2 v (ints acc)→(S2.e=0∨S2.e=700)→(∀code h3 v3,code=(aK.seq (.seq (.qZ [⟨(some 59),.mv (.t 0),none⟩,⟨(some 60),.qy (.t 59),none⟩,⟨(some 61),.qk 4 (.t 60),none⟩,⟨(some 62),.load false 1 (.t 61),none⟩,⟨(some 63),.bin .eql (.t 62) (.c (.int .i64 0)),none⟩,⟨(some 64),.mv (.t 63),none⟩,⟨(some 65),.mv (.t 7),(some (64,true))⟩,⟨(some 66),.len false (.t 65),(some (64,true))⟩,⟨(some 67),.mv (.t 9),(some (64,true))⟩,⟨(some 68),.bin .add (.t 66) (.t 67),(some (64,true))⟩,⟨(some 69),.mv (.t 2),(some (64,true))⟩,⟨(some 70),.bin .gtr (.t 68) (.t 69),(some (64,true))⟩,⟨(some 71),.pick (.t 64) (.t 70) (.c (.bool false)),none⟩] [0,1,2,7,9,10,71]) (.cond (.t 71) (.qZ [⟨(some 72),.mv (.t 0),none⟩,⟨(some 73),.call (.c (.fn 25 [] [])) [(.t 72)],none⟩] [0,1,2,7,9,10]) (.skip) [0,1,2,7,9,10])) (.seq (.qZ [⟨(some 11),.mv (.c (.int .i64 0)),none⟩] [0,1,2,7,9,10,11]) (.block 3 (.loop [0,1,2,7,9,10,11] AP.f53L0) [0,1,2,7])))→aP (aV AP.A) bL code [(0,.aH c.f 0),(1,yT cl),(2,I many),(7,v),(9,I times),(10,I n)] h2=some (.normal,[(0,.aH c.f 0),(1,yT cl),(2,I many),(7,v3)],h3)→
        aP (aV AP.A) bL AP.f53L1 (aC [(0,.aH c.f 0),(1,yT cl),(2,I many),(7,v)] [0,1,2,7]) h=some (.normal,[(0,.aH c.f 0),(1,yT cl),(2,I many),(7,v3)],h3))→
        (match zk c.text y acc p1 with|some q=>S2={S with at_:=q.2.2}∧n=q.1∧times=q.2.1∧p1≤q.2.2|none=>S2.e=700)→
        ∃ h' S', Ft c S' h' ov ∧ FF c h0 ov h' ov ∧ match (match zk c.text y acc p1 with | none => none | some (n, times, p2) => zf c.text cl many f (acc ++ List.replicate times n) p2) with
          |some (L,p)=>S'={S with at_:=p}∧L.length=many∧∃e' v',Lp AP.A [0,1,2,7] AP.f53L1 [(0,.aH c.f 0),(1,yT cl),(2,I many),(7,v)] h=some (.exit 0,e',h')∧look e' 7=v'∧pP h' v' (ints L)∧∀j,v'.id?=some j→h0.next≤j
          |none=>S'.e=700∧((∃e' v',Lp AP.A [0,1,2,7] AP.f53L1 [(0,.aH c.f 0),(1,yT cl),(2,I many),(7,v)] h=some (.exit 0,e',h')∧look e' 7=v')∨∃e',Lp AP.A [0,1,2,7] AP.f53L1 [(0,.aH c.f 0),(1,yT cl),(2,I many),(7,v)] h=some (.ret,e',h')∧look e' 6=.aT):=by
        intro n times h2 S2 ht st2 fr2 o2 he2 hstep hag
        obtain⟨h3,S3,v3,t1,t2,t3,t4⟩:=Gk h0 cl many hm st2 fr2 o2 hlt hid hlo n times ht he2 _ rfl
        have step:=hstep _ h3 v3 rfl t1
        cases ha:zk c.text y acc p1 with
        | none =>
          rw[ha]at hag
          dsimp only at hag ⊢
          rcases t4 with ⟨t5,_⟩|⟨_,t6,t7,t8⟩
          · rw[hag]at t5;exact absurd t5 (by decide)
          · subst t7
            obtain⟨e',q1,q2⟩:=BQ t2 (yT cl) many t8 (.inr ⟨hlt,by rw[t6];decide⟩)
            exact⟨h3,S3,t2,t3,t6,.inl ⟨e',v3,wj step q1,q2⟩⟩
        | some q =>
          obtain⟨n2,t2',p2⟩:=q
          rw[ha]at hag
          obtain⟨g1,g2,g3,g4⟩:=hag
          dsimp only at g1 g2 g3 g4 ⊢
          subst g1 g2 g3
          have hle2:=st2.zC
          dsimp only at hle2
          rcases t4 with ⟨t5,t6,t7,t8,t9⟩|⟨t5,t6,t7,t8⟩
          · subst t7
            obtain⟨h',S',r1,r2,r3⟩:=Dp h0 cl hcl many hm f (acc++List.replicate times n) _ h3 ov v3 t2 he (by dsimp only;omega) t3 t8 (by simp;omega) t9 hlo
            refine⟨h',S',r1,r2, ?_⟩
            dsimp only at r3
            cases hL:zf c.text cl many f (acc++List.replicate times n) p2 with
            | some q =>
              rw[hL]at r3
              obtain⟨r4,r5,e',v',r6,r7⟩:=r3
              exact⟨r4,r5,e',v',wj step r6,r7⟩
            | none =>
              rw[hL]at r3
              obtain⟨r4,r5⟩:=r3
              refine⟨r4, ?_⟩
              rcases r5 with ⟨e',v',r6,r7⟩|⟨e',r6,r7⟩
              · exact .inl ⟨e',v',wj step r6,r7⟩
              · exact .inr ⟨e',wj step r6,r7⟩
          · have hgt:many<acc.length+times:=by
             rcases t5 with q|q
             · exact absurd he q
             · exact q
            have hnone:zf c.text cl many f (acc++List.replicate times n) p2=none:=by
             obtain⟨f',rfl⟩:∃f',f=f'+1:=⟨f-1,by omega⟩
             rw[zf,if_neg (by simp;omega),if_pos (by simp;omega)]
            rw[hnone]
            dsimp only
            subst t7
            obtain⟨e',q1,q2⟩:=BQ t2 (yT cl) many t8 (.inr ⟨hlt,by rw[t6];decide⟩)
            exact⟨h3,S3,t2,t3,t6,.inl ⟨e',v3,wj step q1,q2⟩⟩
       have ne0:((0:Int) !=0)=false:=rfl
       by_cases h16:y=16
       · have d16:=xc h16
         by_cases hn:acc=[]
         · obtain⟨h2,f1,f2,f3⟩:=Ae s2
           have hag:zk c.text y acc p1=none:=by unfold zk;rw[if_pos h16,if_pos hn]
           rw[hag]
           have hz0:((acc.length:Int)==0)=true:=by rw[hn];rfl
           refine⟨h2,_,f2,fr1.trans f3,by simp [yQ,he],.inr ⟨[(6,.aT)],wM ?_,rfl⟩⟩
           simp only[I]at *
           simp only[AP.f53L1,go_sem,ln,QM c1,gf,s1,gf1,ne0,d16,ln1,hz0,f1]
         · have hpos:0<acc.length:=List.length_pos_iff.2 hn
           have hz0:((acc.length:Int)==0)=false:=xb (by omega)
           have w2:IntKind.wrap .i64 ((acc.length:Int)-1)=((acc.length-1:Nat):Int):=by
            rw[show(acc.length:Int)-1=((acc.length-1:Nat):Int)by omega];exact yJ (by omega)
           have hel:=BD (l:=acc) (i:=acc.length-1) (by omega)
           obtain⟨id,i1,i2,i3⟩:=oa1.elem hel
           obtain⟨h2,k1,k2,k3⟩:=zU s2 2 2 rfl (by omega)
           have hgl:(yY c 2 {S with at_:=p1}).1<4:=by
            unfold yY;split
            · simpa using zg c.text p1 2
            · simp
           have w3:IntKind.wrap .i64 (3+((yY c 2 {S with at_:=p1}).1:Int))=((3+(yY c 2 {S with at_:=p1}).1:Nat):Int):=yJ (n:=3+_) (by omega)
           have o2:pP h2 v (ints acc):=oa1.mono k3.fl fun i hi=>k3.CR i (oa1.lt hi) (hneq i hi).1 (hneq i hi).2
           refine fin (acc.getD (acc.length-1) 0) (3+(yY c 2 {S with at_:=p1}).1) h2 _ (by omega) k2 (fr1.trans k3) o2 (Cx c 2 _ (.inl he)) ?_ ?_
           · intro code h3 v3 hc hev
             clear fin i1
             generalize (yY c 2 {S with at_:=p1}).1=G at *
             unfold AP.f53L1
             rw[hc]at hev
             simp only[I]at *
             simp only[u6,pR,sR,vK,go_sem,ln,QM c1,gf,s1,gf1,ne0,d16,ln1,hz0,w2,i2,i3,hel,k1,w3]
             simp only[u6,pR,sR,vK,go_sem]at hev
             simp only[hev,go_sem]
           · by_cases hp:p1+2≤8* c.text.size
             · have hag:zk c.text y acc p1=some (acc.getD (acc.length-1) 0,3+yN c.text p1 2,p1+2):=by unfold zk;rw[if_pos h16,if_neg hn,if_pos hp]
               rw[hag]
               have eg:yY c 2 {S with at_:=p1}=(yN c.text p1 2,{S with at_:=p1+2}):=by rw[yY,if_pos hp]
               rw[eg]
               exact⟨rfl,rfl,rfl,by show p1≤p1+2;omega⟩
             · have hag:zk c.text y acc p1=none:=by unfold zk;rw[if_pos h16,if_neg hn,if_neg hp]
               rw[hag]
               have eg:yY c 2 {S with at_:=p1}=(0,{S with at_:=p1,e:=700}):=by rw[yY,if_neg hp,yQ,if_pos he]
               rw[eg]
       · have d16:=xb h16
         by_cases h17:y=17
         · have d17:=xc h17
           obtain⟨h2,k1,k2,k3⟩:=zU s2 3 3 rfl (by omega)
           have hgl:(yY c 3 {S with at_:=p1}).1<8:=by
            unfold yY;split
            · simpa using zg c.text p1 3
            · simp
           have w3:IntKind.wrap .i64 (3+((yY c 3 {S with at_:=p1}).1:Int))=((3+(yY c 3 {S with at_:=p1}).1:Nat):Int):=yJ (n:=3+_) (by omega)
           have o2:pP h2 v (ints acc):=oa1.mono k3.fl fun i hi=>k3.CR i (oa1.lt hi) (hneq i hi).1 (hneq i hi).2
           refine fin 0 (3+(yY c 3 {S with at_:=p1}).1) h2 _ (by omega) k2 (fr1.trans k3) o2 (Cx c 3 _ (.inl he)) ?_ ?_
           · intro code h3 v3 hc hev
             clear fin
             generalize (yY c 3 {S with at_:=p1}).1=G at *
             unfold AP.f53L1
             rw[hc]at hev
             simp only[I]at *
             simp only[u6,pR,sR,vK,go_sem,ln,QM c1,gf,s1,gf1,ne0,d16,d17,k1,w3]
             simp only[u6,pR,sR,vK,go_sem]at hev
             simp only[hev,go_sem]
           · by_cases hp:p1+3≤8* c.text.size
             · have hag:zk c.text y acc p1=some (0,3+yN c.text p1 3,p1+3):=by unfold zk;rw[if_neg h16,if_pos h17,if_pos hp]
               rw[hag]
               have eg:yY c 3 {S with at_:=p1}=(yN c.text p1 3,{S with at_:=p1+3}):=by rw[yY,if_pos hp]
               rw[eg]
               exact⟨rfl,rfl,rfl,by show p1≤p1+3;omega⟩
             · have hag:zk c.text y acc p1=none:=by unfold zk;rw[if_neg h16,if_pos h17,if_neg hp]
               rw[hag]
               have eg:yY c 3 {S with at_:=p1}=(0,{S with at_:=p1,e:=700}):=by rw[yY,if_neg hp,yQ,if_pos he]
               rw[eg]
         · have d17:=xb h17
           by_cases h18:y=18
           · have d18:=xc h18
             obtain⟨h2,k1,k2,k3⟩:=zU s2 7 7 rfl (by omega)
             have hgl:(yY c 7 {S with at_:=p1}).1<128:=by
              unfold yY;split
              · simpa using zg c.text p1 7
              · simp
             have w3:IntKind.wrap .i64 (11+((yY c 7 {S with at_:=p1}).1:Int))=((11+(yY c 7 {S with at_:=p1}).1:Nat):Int):=yJ (n:=11+_) (by omega)
             have o2:pP h2 v (ints acc):=oa1.mono k3.fl fun i hi=>k3.CR i (oa1.lt hi) (hneq i hi).1 (hneq i hi).2
             refine fin 0 (11+(yY c 7 {S with at_:=p1}).1) h2 _ (by omega) k2 (fr1.trans k3) o2 (Cx c 7 _ (.inl he)) ?_ ?_
             · intro code h3 v3 hc hev
               clear fin
               generalize (yY c 7 {S with at_:=p1}).1=G at *
               unfold AP.f53L1
               rw[hc]at hev
               simp only[I]at *
               simp only[u6,pR,sR,vK,go_sem,ln,QM c1,gf,s1,gf1,ne0,d16,d17,d18,k1,w3]
               simp only[u6,pR,sR,vK,go_sem]at hev
               simp only[hev,go_sem]
             · by_cases hp:p1+7≤8* c.text.size
               · have hag:zk c.text y acc p1=some (0,11+yN c.text p1 7,p1+7):=by unfold zk;rw[if_neg h16,if_neg h17,if_pos h18,if_pos hp]
                 rw[hag]
                 have eg:yY c 7 {S with at_:=p1}=(yN c.text p1 7,{S with at_:=p1+7}):=by rw[yY,if_pos hp]
                 rw[eg]
                 exact⟨rfl,rfl,rfl,by show p1≤p1+7;omega⟩
               · have hag:zk c.text y acc p1=none:=by unfold zk;rw[if_neg h16,if_neg h17,if_pos h18,if_neg hp]
                 rw[hag]
                 have eg:yY c 7 {S with at_:=p1}=(0,{S with at_:=p1,e:=700}):=by rw[yY,if_neg hp,yQ,if_pos he]
                 rw[eg]
           · have d18:=xb h18
             have hag:zk c.text y acc p1=some (y,1,p1):=by unfold zk;rw[if_neg h16,if_neg h17,if_neg h18]
             refine fin y 1 h1 _ (by omega) s2 fr1 oa1 (.inl he) ?_ (by rw[hag];exact⟨rfl,rfl,rfl,ya _⟩)
             intro code h3 v3 hc hev
             clear fin hag
             unfold AP.f53L1
             rw[hc]at hev
             have hev':aP (aV AP.A) bL _ [(0,.aH c.f 0),(1,yT cl),(2,I many),(7,v),(9,I 1),(10,I y)] h1=_:=hev
             clear hev
             simp only[I]at *
             simp only[u6,pR,sR,vK,go_sem,ln,QM c1,gf,s1,gf1,ne0,d16,d17,d18]
             simp only[u6,pR,sR,vK,go_sem,ln,QM c1,gf,s1,gf1,ne0,d16,d17,d18]at hev'
             simp only[hev',go_sem]
   · have heq:acc.length=many:=by omega
     obtain⟨e',q1,q2⟩:=BQ st (yT cl) many oa (.inl (by omega))
     refine⟨h,S,st,fr, ?_⟩
     rw[zf,if_neg hlt,if_neg (by omega)]
     exact⟨rfl,heq,e',v,q1,q2,oa,hid⟩
def E5 (c:FC):SC:=⟨0,0,c.text,c.most⟩
theorem Jx (c:FC) (n:Nat) (S:SS):yY c n S=yP (E5 c) n S:=(Jw (E5 c) c rfl n S).symm
theorem Ed {c : FC} (a : Nat) (many : Nat) (hmany : many ≤ 19) (m2 m3 : AV) : ∀ (q p o : List Int) (S : SS) (h : H) (ov : AV), y7.take many = p ++ q → Ft c S h ov → ov.id? ≠ some a → a ≠ c.f → h.get a = some (ints o) → o.length = 19 → h.floor ≤ a →
 ∃ e' h', Lp AP.A [0, 2, 3, 4, 5, 6, 7] AP.f24L0 [(0, .aH c.f 0), (2, m2), (3, m3), (4, I many), (5, .aI a 0 19 1), (6, zj y7), (7, I p.length)] h = some (.exit 0, e', h') ∧ look e' 0 = .aH c.f 0 ∧ look e' 2 = m2 ∧ look e' 3 = m3 ∧ look e' 5 = .aI a 0 19 1 ∧
   Ft c (Au (E5 c) q o S).2 h' ov∧h'.get a=some (ints (Au (E5 c) q o S).1)∧h'.floor=h.floor∧h.next≤h'.next∧∀i,i<h.next→i≠c.f→ov.id?≠some i→i≠a→h'.get i=h.get i
 | [], p, o, S, h, ov, hp, st, hoa, hac, hg, ho, hf => by
   have hlen:p.length=many:=by
    have:=Q5 List.length hp
    rw[List.length_take,QT]at this
    have h2:y7.length=19:=rfl
    omega
   refine⟨[(0,.aH c.f 0),(2,m2),(3,m3),(4,I many),(5,.aI a 0 19 1),(6,zj y7),(7,I p.length),(37,.bool false)],h,wh ?_,rfl,rfl,rfl,rfl,st,hg,rfl,ya _,fun _ _ _ _ _=>rfl⟩
   have c1:¬(p.length:Int)<(many:Int):=by omega
   simp only[I]at *
   simp only[AP.f24L0,go_sem,QL c1]
 | s :: q, p, o, S, h, ov, hp, st, hoa, hac, hg, ho, hf => by
   have h2l:y7.length=19:=rfl
   have hlen:p.length+(q.length+1)=many:=by
    have:=Q5 List.length hp
    rw[List.length_take,yH,QR]at this
    omega
   have c1:(p.length:Int)<(many:Int):=by omega
   have hsm:s∈y7:=List.mem_of_mem_take (i:=many) (by rw[hp];simp)
   have hs:=Ey s hsm
   obtain⟨sn,hsn⟩:∃n:Nat,s=n:=QQ hs.1
   subst hsn
   have hv0:y7[p.length]?=some (sn:Int):=by
    have:(y7.take many)[p.length]?=some (sn:Int):=by rw[hp];simp
    rw[yG]at this
    split at this
    · exact this
    · cases this
   have hv:(ints y7)[p.length]?=some (I sn):=vP hv0
   have ia:iy 1 (zj y7) (I p.length)=some (.aO (ints y7) p.length):=by
    have:=mI (show p.length<y7.length by omega)
    simp only[iy,zj,if_true,this,xX,ym,Q3]
   obtain⟨h1,k1,k2,k3⟩:=zU st 3 3 rfl (by omega)
   rw[Jx]at k1 k2
   have hal:a<h.next:=h.lt _ _ hg
   have hg1:h1.get a=some (ints o):=by rw[k3.CR a hal hac hoa];exact hg
   have a1:iy 1 (.aI a 0 19 1) (I sn)=some (.aH a sn):=by simp [iy,mI (show sn<19 by omega)]
   have hset:(ints o).set sn (I ((yP (E5 c) 3 S).1:Nat))=ints (o.set sn ((yP (E5 c) 3 S).1:Nat)):=by simp [ints,List.map_set]
   have hst:wZ h1 a sn 1 [I ((yP (E5 c) 3 S).1:Nat)] (some (ints o))=some (h1.set a (ints (o.set sn ((yP (E5 c) 3 S).1:Nat)))):=by
    rw[xG (by rw[k3.fl];exact hf) (by rw[sD];omega) rfl,hset]
   have w2:IntKind.wrap .i64 ((p.length:Int)+1)=(((p++[(sn:Int)]).length:Nat):Int):=by
    rw[yH];exact yJ (n:=p.length+1) (by omega)
   have step:aP (aV AP.A) bL AP.f24L0 (aC [(0,.aH c.f 0),(2,m2),(3,m3),(4,I many),(5,.aI a 0 19 1),(6,zj y7),(7,I p.length)] [0,2,3,4,5,6,7]) h=some (.normal,[(0,.aH c.f 0),(2,m2),(3,m3),(4,I many),(5,.aI a 0 19 1),(6,zj y7),(7,I (p++[(sn:Int)]).length)],h1.set a (ints (o.set sn ((yP (E5 c) 3 S).1:Nat)))):=by
    clear hset
    generalize ints (o.set sn ((yP (E5 c) 3 S).1:Nat))=W at *
    generalize (p++[(sn:Int)]).length=B at *
    generalize (yP (E5 c) 3 S).1=G at *
    generalize ints o=OO at *
    generalize zj y7=RO at *
    unfold AP.f24L0
    refine xD (e1:=[(0,.aH c.f 0),(2,m2),(3,m3),(4,I many),(5,.aI a 0 19 1),(6,RO),(7,I p.length)]) (h1:=h) ?_ ?_
    · simp only[I]at *
      simp only[go_sem,QM c1]
    refine xD (e1:=[(0,.aH c.f 0),(2,m2),(3,m3),(4,I many),(5,.aI a 0 19 1),(6,RO),(7,I p.length)]) (h1:=h1.set a W) ?_ ?_
    · rw[pR,EH (e':=[(47,.aH a sn),(46,I G),(45,.aH c.f 0),(44,I sn),(43,.aO (ints y7) p.length),(42,I p.length),(41,RO),(40,.aI a 0 19 1),(0,.aH c.f 0),(2,m2),(3,m3),(4,I many),(5,.aI a 0 19 1),(6,RO),(7,I p.length)]) (h':=h1.set a W) (gs:=[h,h1,h1.set a W])]
      · simp only[go_sem]
      · simp only[I]at *
        simp only[AY,Cz,Cy,CE,CD,cy.aS,go_sem,ia,hv,k1,a1,hg1,hst]
      · refine A3 (fun k hk=> ?_) rfl
        obtain rfl:k=1:=by simpa using hk
        refine A1 (o:=⟨some 44,.load false 1 (.t 43),none⟩) (g:=h1) (h':=h1) (d:=44) (u:=I sn) rfl rfl rfl rfl ?_ ?_
        · simp only[aj,go_sem,hv]
        · simp only[go_sem,I,CY]
    · simp only[I]at *
      simp only[go_sem,w2]
   have st2:Ft c (yP (E5 c) 3 S).2 (h1.set a (ints (o.set sn ((yP (E5 c) 3 S).1:Nat)))) ov:=k2.AH (by simp) (by simp) fun i hi=>by
    rw[H.eh,if_neg]
    rintro rfl
    rcases hi with hi|hi
    · exact hac hi
    · exact hoa hi
   obtain⟨e',h',q1,q2,q3,q4,q5,q6,q7,q8,q9,q10⟩:=Ed a many hmany m2 m3 q (p++[(sn:Int)]) (o.set sn ((yP (E5 c) 3 S).1:Nat)) _ _ ov (by rw[hp];simp) st2 hoa hac (by rw[H.eh,if_pos rfl,hg1];rfl) (by simpa using ho) (by simp [k3.fl];exact hf)
   refine⟨e',h',wj step q1,q2,q3,q4,q5, ?_, ?_,by rw[q8];simp [k3.fl],by have:=k3.nx;simp at q9;omega,fun i i1 i2 i4 i5=> ?_⟩
   · rw[Au];exact q6
   · rw[Au];exact q7
   · rw[q10 i (by have:=k3.nx;simp;omega) i2 i4 i5,H.eh,if_neg i5,k3.CR i i1 i2 i4]
theorem Gj {c:FC} {S:SS} {h:H} {ov:AV} (cl:List Int) (hcl:cl.length<1000) (st:Ft c S h ov) (he:S.e=0) (many:Nat) (hm:many≤400):
 ∃ h' S' v, aV AP.A 53 [.aH c.f 0, yT cl, I many] h = some (v, h') ∧ Ft c S' h' ov ∧ FF c h ov h' ov ∧ match zf c.text cl many (8 * c.text.size + 1) [] S.at_ with
   |some (L,p)=>S'={S with at_:=p}∧L.length=many∧pP h' v (ints L)∧∀j,v.id?=some j→h.next≤j
   |none=>S'.e=700:=by
 obtain⟨h',S',q1,q2,q3⟩:=Dp h cl hcl many hm (8* c.text.size+1) [] S h ov .aT st he (by omega) (FF.refl _ _ _) (.inl ⟨rfl,rfl⟩) (by simp) (fun j q=>by cases q) (fun j hj=>st.lt hj)
 have close:∀e' v,Lp AP.A [0,1,2,7] AP.f53L1 [(0,.aH c.f 0),(1,yT cl),(2,I many),(7,.aT)] h=some (.exit 0,e',h')→look e' 7=v→aV AP.A 53 [.aH c.f 0,yT cl,I many] h=some (v,h'):=by
  intro e' v r1 r2
  refine wF (fn:=AP.f53) (e:=[(6,v)]) (vs:=[v]) rfl rfl rfl ?_ rfl
  simp only[I]at *
  simp only[AP.f53,go_sem,vp,r1,r2]
 cases hL:zf c.text cl many (8* c.text.size+1) [] S.at_ with
 | some q =>
   rw[hL]at q3
   obtain⟨r1,r2,e',v',r3,r4,r5,r6⟩:=q3
   exact⟨h',S',v',close e' v' r3 r4,q1,q2,r1,r2,r5,r6⟩
 | none =>
   rw[hL]at q3
   obtain⟨r1,⟨e',v',r3,r4⟩|⟨e',r3,r4⟩⟩:=q3
   · exact⟨h',S',v',close e' v' r3 r4,q1,q2,r1⟩
   · refine⟨h',S',.aT, ?_,q1,q2,r1⟩
     refine wF (fn:=AP.f53) (e:=e') (vs:=[.aT]) rfl rfl rfl ?_ (by simp only[AP.f53,di,pG,r4];rfl)
     simp only[I]at *
     simp only[AP.f53,go_sem,vp,r3]
theorem F6 (t:ByteArray) (most:Int) (out:List Nat) {p:Nat} (hp:¬p+14≤8* t.size):DS t most p out=.error 700:=by
 unfold DS
 split
 · dsimp only
   split
   · rfl
   · have:∀m,Ax t m (p+10)=none:=fun m=>by rw[Ax,if_neg (by omega)]
     rw[this]
 · rfl
theorem F9 {c : FC} {S : SS} {h : H} {ov : AV} (st : Ft c S h ov) (he : S.e = 0) :
 ∃h' ov' S',aV AP.A 24 [.aH c.f 0] h=some (.cf [],h')∧Ft c S' h' ov'∧FF c h ov h' ov'∧Fin (DS c.text c.most S.at_ S.out) S':=by
 obtain⟨h1,a1,a2,a3⟩:=zU st 5 5 rfl (by omega)
 obtain⟨h2,b1,b2,b3⟩:=zU a2 5 5 rfl (by omega)
 obtain⟨h3,d1,d2,d3⟩:=zU b2 4 4 rfl (by omega)
 obtain⟨A,hA⟩:∃n,n=(yY c 5 S).1:=⟨_,rfl⟩
 obtain⟨S1,hS1⟩:∃n,n=(yY c 5 S).2:=⟨_,rfl⟩
 rw[←hA]at a1;rw[←hS1]at a2 b1 b2 d1 d2
 obtain⟨B,hB⟩:∃n,n=(yY c 5 S1).1:=⟨_,rfl⟩
 obtain⟨S2,hS2⟩:∃n,n=(yY c 5 S1).2:=⟨_,rfl⟩
 rw[←hB]at b1;rw[←hS2]at b2 d1 d2
 obtain⟨C,hC⟩:∃n,n=(yY c 4 S2).1:=⟨_,rfl⟩
 obtain⟨S3,hS3⟩:∃n,n=(yY c 4 S2).2:=⟨_,rfl⟩
 rw[←hC]at d1;rw[←hS3]at d2
 have g5:∀S,(yY c 5 S).1<32:=fun S=>by
  unfold yY;split
  · simpa using zg c.text S.at_ 5
  · simp
 have hA32:A<32:=hA ▸ g5 S
 have hB32:B<32:=hB ▸ g5 S1
 have hC16:C<16:=by
  rw[hC];unfold yY;split
  · simpa using zg c.text S2.at_ 4
  · simp
 have w1:IntKind.wrap .i64 (257+(A:Int))=((A+257:Nat):Int):=by rw[show 257+(A:Int)=((A+257:Nat):Int)by omega];exact yJ (by omega)
 have w2:IntKind.wrap .i64 (1+(B:Int))=((B+1:Nat):Int):=by rw[show 1+(B:Int)=((B+1:Nat):Int)by omega];exact yJ (by omega)
 have w3:IntKind.wrap .i64 (4+(C:Int))=((C+4:Nat):Int):=by rw[show 4+(C:Int)=((C+4:Nat):Int)by omega];exact yJ (by omega)
 have gf3:=d2.gf
 have he3:S3.e=0∨S3.e=700:=by rw[hS3];exact Cx c 4 _ (by rw[hS2];exact Cx c 5 _ (by rw[hS1];exact Cx c 5 S (.inl he)))
 have fr3:=(a3.trans b3).trans d3
 have bad:(S3.e≠0∨286<A+257∨30<B+1)→∃h' ov' S',aV AP.A 24 [.aH c.f 0] h=some (.cf [],h')∧Ft c S' h' ov'∧FF c h ov h' ov'∧S'.e=700∧(700:Int)≠0:=by
  intro hb
  obtain⟨h4,f1,f2,f3⟩:=Ae d2
  refine⟨h4,ov,yQ 700 S3, ?_,f2,fr3.trans f3,by rcases he3 with q|q<;>simp [yQ,q],by decide⟩
  refine wF (fn:=AP.f24) (e:=[]) (vs:=[]) rfl rfl rfl ?_ rfl
  by_cases c1:S3.e=0
  · have c1':=xe c1
    by_cases c2:286<A+257
    · have c2':(286:Int)<((A+257:Nat):Int):=by omega
      simp only[I]at *
      simp only[AP.f24,go_sem,a1,b1,d1,w1,w2,w3,gf3,c1',QM c2',f1]
    · have c2':¬(286:Int)<((A+257:Nat):Int):=by omega
      have c3':(30:Int)<((B+1:Nat):Int):=by
       rcases hb with q|q|q
       · exact absurd c1 q
       · exact absurd q c2
       · omega
      simp only[I]at *
      simp only[AP.f24,go_sem,a1,b1,d1,w1,w2,w3,gf3,c1',QL c2',QM c3',f1]
  · have c1':=xh c1
    simp only[I]at *
    simp only[AP.f24,go_sem,a1,b1,d1,w1,w2,w3,gf3,c1',f1]
 by_cases hp:S.at_+14≤8* c.text.size
 · unfold DS
   have e1:yY c 5 S=(yN c.text S.at_ 5,{S with at_:=S.at_+5}):=by rw[yY,if_pos (by omega)]
   rw[e1]at hA hS1;dsimp only at hA hS1
   have e2:yY c 5 {S with at_:=S.at_+5}=(yN c.text (S.at_+5) 5,{S with at_:=S.at_+5+5}):=by rw[yY,if_pos (by show S.at_+5+5≤_;omega)]
   rw[hS1,e2]at hB hS2;dsimp only at hB hS2
   have e3:yY c 4 {S with at_:=S.at_+5+5}=(yN c.text (S.at_+5+5) 4,{S with at_:=S.at_+5+5+4}):=by rw[yY,if_pos (by show S.at_+5+5+4≤_;omega)]
   rw[hS2,e3]at hC hS3;dsimp only at hC hS3
   rw[if_pos (show S.at_+10≤8* c.text.size by omega)]
   dsimp only
   rw[←hA,←hB]
   by_cases hbig:286<A+257∨30<B+1
   · rw[if_pos hbig];exact bad (.inr hbig)
   rw[if_neg hbig]
   have he30:S3.e=0:=by rw[hS3];exact he
   have hat3:S3.at_=S.at_+14:=by rw[hS3]
   have c1':(S3.e !=0)=false:=xe he30
   have c2':¬(286:Int)<((A+257:Nat):Int):=by omega
   have c3':¬(30:Int)<((B+1:Nat):Int):=by omega
   have w4:IntKind.wrap .i64 (((A+257:Nat):Int)+((B+1:Nat):Int))=((A+257+(B+1):Nat):Int):=by
    rw[show((A+257:Nat):Int)+((B+1:Nat):Int)=((A+257+(B+1):Nat):Int)by omega];exact yJ (by omega)
   obtain⟨a,ha⟩:∃a,a=h3.next:=⟨_,rfl⟩
   obtain⟨g0,hg0⟩:∃g,g=h3.alloc (ints (List.replicate 19 0)):=⟨_,rfl⟩
   have al:=d2.alloc (ints (List.replicate 19 0))
   rw[←hg0]at al
   have hga:g0.get a=some (ints (List.replicate 19 0)):=by rw[hg0,H.bc,if_pos ha]
   have oc:=Iu g0
   have bt:∀e:Env,bh e (.jU 1 8 [.int .i64 0] (.c (.int .i64 19)) (.c (.int .i64 19)))=some (ints (List.replicate 19 0),fun i=>.aI i 0 19 1):=fun _=>rfl
   have hac:a≠c.f:=fun e=>by have:=d2.lt (.inl e);omega
   have hoa:ov.id?≠some a:=fun e=>by have:=d2.lt (.inr e);omega
   obtain⟨e4,h4,l1,l2,l3,l4,l5,l6,l7,l8,l9,l10⟩:=Ed (c:=c) a (C+4) (by omega) (I (A+257:Nat)) (I (B+1:Nat)) (y7.take (C+4)) [] (List.replicate 19 0) S3 g0 ov rfl al.1 hoa hac hga (by simp) (by rw[hg0,ha];simp;exact d2.nx)
   have l1':Lp AP.A [0,2,3,4,5,6,7] AP.f24L0 [(0,.aH c.f 0),(2,I (A+257:Nat)),(3,I (B+1:Nat)),(4,I (C+4:Nat)),(5,.aI a 0 19 1),(6,zj y7),(7,I 0)] g0=some (.exit 0,e4,h4):=l1
   clear l1
   have hn0:g0.next=h3.next+1:=by rw[hg0];simp
   have fr4:FF c h ov h4 ov:=by
    refine⟨by rw[l8,al.2.fl,fr3.fl], ?_,fun id i1 i2 i4=> ?_,fun i hi=>.inl hi⟩
    · have:=fr3.nx;omega
    · have:=fr3.nx
      rw[l10 id (by omega) i2 i4 (by omega),al.2.CR id (by omega) i2 i4,fr3.CR id i1 i2 i4]
   obtain⟨cl,hcl⟩:∃cl,cl=(Au (E5 c) (y7.take (C+4)) (List.replicate 19 0) S3).1:=⟨_,rfl⟩
   obtain⟨S4,hS4⟩:∃cl,cl=(Au (E5 c) (y7.take (C+4)) (List.replicate 19 0) S3).2:=⟨_,rfl⟩
   rw[←hS4]at l6;rw[←hcl]at l7
   have hcll:cl.length=19:=by rw[hcl,DD];simp
   have hol:(y7.take (C+4)).length=C+4:=by rw[List.length_take];show min (C+4) 19=C+4;omega
   have jj:Rd h4 (.aI a 0 19 1) (ints cl):=by
    refine⟨?_,by intro s e;cases e⟩
    simp [aW,l7,hcll,yC]
   have ck:=Df h4 (.aI a 0 19 1) cl (by omega) jj
   have bk:=Bj h4 (.aI a 0 19 1) cl (by omega) jj
   have gf4:=l6.gf
   have he4:S4.e=0∨S4.e=700:=by rw[hS4];exact Iv _ _ _ _ (.inl he30)
   have bad2:(S4.e≠0∨ze cl≠0)→∃h' ov' S',aV AP.A 24 [.aH c.f 0] h=some (.cf [],h')∧Ft c S' h' ov'∧FF c h ov h' ov'∧S'.e=700∧(700:Int)≠0:=by
    intro hb
    obtain⟨h5,f1,f2,f3⟩:=Ae l6
    refine⟨h5,ov,yQ 700 S4, ?_,f2,fr4.trans f3,by rcases he4 with q|q<;>simp [yQ,q],by decide⟩
    refine wF (fn:=AP.f24) (e:=[]) (vs:=[]) rfl rfl rfl ?_ rfl
    by_cases q1:S4.e=0
    · have q1':=xe q1
      have q2':(ze cl !=0)=true:=xh (by rcases hb with q|q;exact absurd q1 q;exact q)
      simp only[I]at *
      simp only[AP.f24,go_sem,a1,b1,d1,w1,w2,w3,gf3,c1',QL c2',QL c3',bt,←hg0,←ha,oc,vp,l1',l2,l3,l4,l5,gf4,q1',ck,q2',f1]
    · have q1':=xh q1
      simp only[I]at *
      simp only[AP.f24,go_sem,a1,b1,d1,w1,w2,w3,gf3,c1',QL c2',QL c3',bt,←hg0,←ha,oc,vp,l1',l2,l3,l4,l5,gf4,q1',f1]
   have hlens:Ax c.text (A+257+(B+1)) (S.at_+10)=if S.at_+14+3* (C+4)≤8* c.text.size then(if ze (DV c.text (y7.take (C+4)) (S.at_+14) (List.replicate 19 0))=0 then zf c.text (DV c.text (y7.take (C+4)) (S.at_+14) (List.replicate 19 0)) (A+257+(B+1)) (8* c.text.size+1) [] (S.at_+14+3* (C+4))else none)else none:=by
    have hC':yN c.text (S.at_+10) 4=C:=hC.symm
    unfold Ax
    rw[if_pos (show S.at_+10+4≤8* c.text.size by omega)]
    dsimp only
    rw[hC',show S.at_+10+4=S.at_+14 by omega]
   by_cases hp2:S.at_+14+3* (C+4)≤8* c.text.size
   · have ok := EW (E5 c) (y7.take (C + 4)) (List.replicate 19 0) S3 he30 (by rw [hol, hat3]; exact hp2)
     rw[ok]at hcl hS4
     dsimp only at hcl hS4
     rw[hol]at hS4
     rw[hat3]at hcl
     have hcl':cl=DV c.text (y7.take (C+4)) (S.at_+14) (List.replicate 19 0):=hcl
     rw[if_pos hp2,←hcl']at hlens
     by_cases hck:ze cl=0
     · rw [if_pos hck] at hlens
       have he40:S4.e=0:=by rw[hS4];exact he30
       have hat4:S4.at_=S.at_+14+3* (C+4):=by rw[hS4];show S3.at_+3* (C+4)=_;rw[hat3]
       have q1':=xe he40
       have q2':=xe hck
       obtain⟨h5,S5,av,m1,m2,m3,m4⟩:=Gj cl (by omega) l6 he40 (A+257+(B+1)) (by omega)
       have gf5:=m2.gf
       rw[hat4]at m4
       rw[hlens]
       cases hL:zf c.text cl (A+257+(B+1)) (8* c.text.size+1) [] (S.at_+14+3* (C+4))with
       | none =>
         rw[hL]at m4
         have q3':(S5.e !=0)=true:=xh (by rw[m4];decide)
         refine⟨h5,ov,S5, ?_,m2,fr4.trans m3,m4,by decide⟩
         refine wF (fn:=AP.f24) (e:=[(0,.aH c.f 0),(2,I (A+257:Nat)),(8,av),(71,.bool true)]) (vs:=[]) rfl rfl rfl ?_ rfl
         simp only[I]at *
         simp only[AP.f24,go_sem,a1,b1,d1,w1,w2,w3,gf3,c1',QL c2',QL c3',bt,←hg0,←ha,oc,vp,l1',l2,l3,l4,l5,gf4,q1',ck,q2',bk,w4,m1,gf5,q3']
       | some q =>
         obtain⟨L,p2⟩:=q
         rw[hL]at m4
         obtain⟨m4,m5,m6,m7⟩:=m4
         have he5:S5.e=0:=by rw[m4];exact he40
         have q3':=xe he5
         have hrng:zV L:=Ej (t:=c.text) (many:=A+257+(B+1)) (p:=S.at_+10) (p2:=p2) (by rw[hlens,hL])
         dsimp only
         obtain⟨id,hav,hgid⟩:∃id,av=.aI id 0 (A+257+(B+1)) 1∧h5.get id=some (ints L):=by
          rcases m6 with ⟨_,q⟩|⟨id,q1,q2,_⟩
          · have:=Q5 List.length q;rw[sD,m5,QU]at this;omega
          · exact⟨id,by rw[q1,sD,m5],q2⟩
         have hil:(ints L).length=A+257+(B+1):=by rw[sD,m5]
         have s1:=EJ (h:=h5) (k:=A+257) hgid hil (ya _) (by omega)
         have s2:=F3 (h:=h5) (k:=A+257) hgid hil (by omega)
         rw[show A+257+(B+1)-(A+257)=B+1 by omega]at s2
         rw[←hav]at s1 s2
         obtain⟨la,hla⟩:∃x,x=L.take (A+257):=⟨_,rfl⟩
         obtain⟨lb,hlb⟩:∃x,x=L.drop (A+257):=⟨_,rfl⟩
         have hlal:la.length=A+257:=by rw[hla,List.length_take];omega
         have hlbl:lb.length=B+1:=by rw[hlb,List.length_drop];omega
         have ra:Rd h5 (.aI id 0 (A+257) 1) (ints la):=by
          refine⟨?_,by intro s e;cases e⟩
          simp only[aW,if_true,hgid,xX]
          rw[if_pos (by rw[hil];omega),hla];simp [ints,List.map_take];omega
         have rb:Rd h5 (.aI id (A+257) (B+1) 1) (ints lb):=by
          refine⟨?_,by intro s e;cases e⟩
          simp only[aW,if_true,hgid,xX]
          rw[if_pos (by rw[hil];omega),hlb]
          have:(ints (L.drop (A+257))).length=B+1:=by rw[sD,←hlb,hlbl]
          rw[this,ints,ints,←List.map_drop,Q3,yC (by rw[List.length_map,←hlb,hlbl];omega)]
         rw[←hla,←hlb]
         have cka:=Df h5 _ la (by omega) ra
         have ckb:=Df h5 _ lb (by omega) rb
         have hra:zV la:=fun y hy=>hrng y (List.mem_of_mem_take (hla ▸ hy))
         have hrb:zV lb:=fun y hy=>hrng y (List.mem_of_mem_drop (hlb ▸ hy))
         have sgb:=IP h5 _ lb (by omega) hrb rb
         have mka:=Bj h5 _ la (by omega) ra
         have mkb:=Bj h5 _ lb (by omega) rb
         have hel0:la.getD 256 0=L.getD 256 0:=by
          rw[hla,List.getD_eq_getElem?_getD,List.getD_eq_getElem?_getD,yG,if_pos (by omega)]
         have hel:=BD (l:=L) (i:=256) (by omega)
         rw[←hel0]at hel
         obtain⟨id2,i1,i2,i3⟩:=m6.elem hel
         have i2':iy 1 av (I 256)=some (.aH id2 256):=i2
         clear i2
         by_cases hbad:ze la≠0∨la.getD 256 0=0∨(ze lb≠0∧zu lb=false)
         · rw [if_pos hbad]
           obtain⟨h6,f1,f2,f3⟩:=Ae m2
           refine⟨h6,ov,yQ 700 S5, ?_,f2,(fr4.trans m3).trans f3,by simp [yQ,he5],by decide⟩
           refine wF (fn:=AP.f24) (e:=[]) (vs:=[]) rfl rfl rfl ?_ rfl
           by_cases x1:ze la=0
           · have x1':=xe x1
             by_cases x2:la.getD 256 0=0
             · have x2':=xc x2
               simp only[I]at *
               simp only[AP.f24,go_sem,a1,b1,d1,w1,w2,w3,gf3,c1',QL c2',QL c3',bt,←hg0,←ha,oc,vp,l1',l2,l3,l4,l5,gf4,q1',ck,q2',bk,w4,m1,gf5,q3',QN,QP,s1,s2,cka,x1',i2',i3,hel,x2',f1]
             · have x2':=xb x2
               obtain⟨x3,x4⟩:ze lb≠0∧zu lb=false:=by
                rcases hbad with q|q|q
                · exact absurd x1 q
                · exact absurd q x2
                · exact q
               have x3':=xh x3
               rw[x4]at sgb
               simp only[I]at *
               simp only[AP.f24,go_sem,a1,b1,d1,w1,w2,w3,gf3,c1',QL c2',QL c3',bt,←hg0,←ha,oc,vp,l1',l2,l3,l4,l5,gf4,q1',ck,q2',bk,w4,m1,gf5,q3',QN,QP,s1,s2,cka,x1',i2',i3,hel,x2',ckb,x3',sgb,f1]
           · have x1':=xh x1
             simp only[I]at *
             simp only[AP.f24,go_sem,a1,b1,d1,w1,w2,w3,gf3,c1',QL c2',QL c3',bt,←hg0,←ha,oc,vp,l1',l2,l3,l4,l5,gf4,q1',ck,q2',bk,w4,m1,gf5,q3',QN,QP,s1,s2,cka,x1',f1]
         · rw [if_neg hbad]
           have x1:ze la=0:=Decidable.byContradiction fun q=>hbad (.inl q)
           have x2:la.getD 256 0≠0:=fun q=>hbad (.inr (.inl q))
           have x1':=xe x1
           have x2':=xb x2
           obtain⟨h6,ov6,S6,r1,r2,r3,r4⟩:=Fl la lb (by omega) (by omega) m2 he5
           have last:aP (aV AP.A) bL (.jS [0,1,2,3,4,5,6,7,8,9] [⟨(some 99),.mv (.t 0),none⟩,⟨(some 100),.mv (.t 8),none⟩,⟨(some 101),.mv (.t 2),none⟩,⟨(some 102),.sl 1 (.t 100) none (some (.t 101)) none,none⟩,⟨(some 103),.call (.c (.fn 21 [] [])) [(.t 102)],none⟩,⟨(some 104),.mv (.t 8),none⟩,⟨(some 105),.mv (.t 2),none⟩,⟨(some 106),.sl 1 (.t 104) (some (.t 105)) none none,none⟩,⟨(some 107),.call (.c (.fn 21 [] [])) [(.t 106)],none⟩,⟨(some 108),.call (.c (.fn 20 [] [])) [(.t 99),(.t 103),(.t 107)],none⟩] [(7,[0])] []) [(0,.aH c.f 0),(2,I (A+257:Nat)),(8,av)] h5=some (.normal,[],h6):=by
            rw[EH (e':=[(108,.cf []),(107,yT lb),(106,.aI id (A+257) (B+1) 1),(105,I (A+257:Nat)),(104,av),(103,yT la),(102,.aI id 0 (A+257) 1),(101,I (A+257:Nat)),(100,av),(99,.aH c.f 0),(0,.aH c.f 0),(2,I (A+257:Nat)),(8,av)]) (h':=h6) (gs:=[h5,h5,h5,h6])]
            · simp only[go_sem]
            · simp only[AY,Cz,Cy,CE,CD,cy.aS,go_sem,QN,QP,s1,s2,mka,mkb,r1]
            · refine A3 (fun k hk=> ?_) rfl
              obtain rfl:k=0:=by simpa using hk
              refine A1 (o:=⟨some 106,.sl 1 (.t 104) (some (.t 105)) none none,none⟩) (g:=h5) (h':=h5) (d:=106) (u:=.aI id (A+257) (B+1) 1) rfl rfl rfl rfl ?_ ?_
              · simp only[aj,go_sem,QN,QP,s2]
              · simp only[go_sem,BX]
           refine⟨h6,ov6,S6, ?_,r2,(fr4.trans m3).trans r3, ?_⟩
           · refine zh (fn:=AP.f24) (e:=[]) (vs:=[]) rfl rfl rfl ?_ rfl
             by_cases x3:ze lb=0
             · have x3':=xe x3
               simp only[I]at *
               simp only[AP.f24,go_sem,a1,b1,d1,w1,w2,w3,gf3,c1',QL c2',QL c3',bt,←hg0,←ha,oc,vp,l1',l2,l3,l4,l5,gf4,q1',ck,q2',bk,w4,m1,gf5,q3',QN,QP,s1,s2,cka,x1',i2',i3,hel,x2',ckb,x3',last]
             · have x3':=xh x3
               have x4:zu lb=true:=by
                cases hs:zu lb with
                |true=>rfl
                |false=>exact absurd (.inr (.inr ⟨x3,hs⟩)) hbad
               rw[x4]at sgb
               simp only[I]at *
               simp only[AP.f24,go_sem,a1,b1,d1,w1,w2,w3,gf3,c1',QL c2',QL c3',bt,←hg0,←ha,oc,vp,l1',l2,l3,l4,l5,gf4,q1',ck,q2',bk,w4,m1,gf5,q3',QN,QP,s1,s2,cka,x1',i2',i3,hel,x2',ckb,x3',sgb,last]
           · have h1:S5.at_=p2:=by rw[m4]
             have h2:S5.out=S.out:=by rw[m4,hS4,hS3]
             rw[h1,h2]at r4;exact r4
     · rw[if_neg hck]at hlens
       rw[hlens]
       exact bad2 (.inr hck)
   · rw[if_neg hp2]at hlens
     rw[hlens]
     refine bad2 (.inl ?_)
     rw[hS4,DC (E5 c) _ _ S3 he30 (by rw[hat3];exact hp) (by rw[hol,hat3];show 8* c.text.size<_;omega)];decide
 · rw[F6 c.text c.most S.out hp]
   refine bad (.inl ?_)
   rw[hS3,hS2,hS1]
   unfold yY
   by_cases q1:S.at_+5≤8* c.text.size
   · simp only[if_pos q1]
     by_cases q2:S.at_+5+5≤8* c.text.size
     · simp only[if_pos q2];rw[if_neg (by omega)];simp [yQ,he]
     · simp only[if_neg q2,yQ,he,if_true];split<;>simp
   · simp only[if_neg q1,yQ,he,if_true]
     split
     · split<;>simp
     · simp;split<;>simp
theorem Ec {c:FC} {S:SS} {h:H} {ov:AV} (st:Ft c S h ov) (b:Int) (hs:b≠0∨(b=0∧S.e≠0)):
 ∃e',Lp AP.A [7,8] AP.f8L0 [(7,.aH c.f 0),(8,I b)] h=some (.exit 0,e',h)∧look e' 7=.aH c.f 0:=by
 have gf:=st.gf
 refine⟨[(7,.aH c.f 0),(29,.bool false)],wh ?_,rfl⟩
 rcases hs with hb|⟨hb,he⟩
 · have c1:=xb hb
   simp only[I]at *
   simp only[AP.f8L0,go_sem,c1]
 · have c1:=xc hb
   have c2:=xb he
   simp only[I]at *
   simp only[AP.f8L0,go_sem,c1,gf,c2]
theorem Eb {c : FC} : ∀ (f : Nat) (S : SS) (h : H) (ov : AV), Ft c S h ov → S.e = 0 → 8 * c.text.size < S.at_ + f →
 ∃e' h' ov' S',Lp AP.A [7,8] AP.f8L0 [(7,.aH c.f 0),(8,I 0)] h=some (.exit 0,e',h')∧look e' 7=.aH c.f 0∧Ft c S' h' ov'∧FF c h ov h' ov'∧Fin (zR c.text c.most f S.at_ S.out) S'
 |0,S,h,ov,st,he,hk=>by have:=st.zC;omega
 | f + 1, S, h, ov, st, he, hk => by
   have gf:=st.gf
   rw[he]at gf
   obtain⟨h1,a1,a2,a3⟩:=zU st 1 1 rfl (by omega)
   obtain⟨h2,b1,b2,b3⟩:=zU a2 2 2 rfl (by omega)
   obtain⟨A,hA⟩:∃n,n=(yY c 1 S).1:=⟨_,rfl⟩
   obtain⟨S1,hS1⟩:∃n,n=(yY c 1 S).2:=⟨_,rfl⟩
   rw[←hA]at a1;rw[←hS1]at a2 b1 b2
   obtain⟨B,hB⟩:∃n,n=(yY c 2 S1).1:=⟨_,rfl⟩
   obtain⟨S2,hS2⟩:∃n,n=(yY c 2 S1).2:=⟨_,rfl⟩
   rw[←hB]at b1;rw[←hS2]at b2
   have gf2:=b2.gf
   have fr2:=a3.trans b3
   rw[zR]
   unfold AE
   by_cases hp:S.at_+3≤8* c.text.size
   · rw [if_pos hp]
     have e1:yY c 1 S=(yN c.text S.at_ 1,{S with at_:=S.at_+1}):=by rw[yY,if_pos (by omega)]
     rw[e1]at hA hS1;dsimp only at hA hS1
     have e2:yY c 2 {S with at_:=S.at_+1}=(yN c.text (S.at_+1) 2,{S with at_:=S.at_+1+2}):=by rw[yY,if_pos (by show S.at_+1+2≤_;omega)]
     rw[hS1,e2]at hB hS2;dsimp only at hB hS2
     have he2:S2.e=0:=by rw[hS2];exact he
     have hat:S2.at_=S.at_+3:=by rw[hS2]
     have hout:S2.out=S.out:=by rw[hS2]
     have hA2:A<2:=by rw[hA];simpa using zg c.text S.at_ 1
     dsimp only
     rw[←hA,←hB]
     have ce:=xe he2
     have n0:((0:Int)==0)=true:=rfl
     have z0:((0:Int)==0)=true:=rfl
     have close:∀(r:Rs) (h':H) (ov':AV) (S':SS),aP (aV AP.A) bL AP.f8L0 (aC [(7,.aH c.f 0),(8,I 0)] [7,8]) h=some (.normal,[(7,.aH c.f 0),(8,I A)],h')→Ft c S' h' ov'→FF c h2 ov h' ov'→Fin r S'→(∀q,r=.ok q→S.at_<q.1)→
      ∃e' h' ov' S',Lp AP.A [7,8] AP.f8L0 [(7,.aH c.f 0),(8,I 0)] h=some (.exit 0,e',h')∧look e' 7=.aH c.f 0∧Ft c S' h' ov'∧FF c h ov h' ov'∧Fin (match (match r with| .ok q=>(.ok (A==1,q.1,q.2):Except Int (Bool×Nat×List Nat))| .error k=>.error k)with| .error k=>.error k| .ok (last,p2,o)=>if last then .ok (p2,o)else zR c.text c.most f p2 o) S':=by
      intro r h' ov' S' step q2 q3 q4 q5
      cases r with
      | error k =>
        have hs:(A:Int)≠0∨((A:Int)=0∧S'.e≠0):=by
         by_cases q:(A:Int)=0
         · exact .inr ⟨q,by rw[q4.1];exact q4.2⟩
         · exact .inl q
        obtain⟨e',r1,r2⟩:=Ec q2 A hs
        exact⟨e',h',ov',S',wj step r1,r2,q2,fr2.trans q3,q4⟩
      | ok q =>
        obtain⟨p2,o⟩:=q
        simp only[Fin]at q4
        dsimp only
        by_cases hA1:A=1
        · have hb:(A==1)=true:=by rw[hA1];rfl
          rw[hb]
          simp only[if_true]
          obtain⟨e',r1,r2⟩:=Ec q2 A (.inl (by omega))
          exact⟨e',h',ov',S',wj step r1,r2,q2,fr2.trans q3,q4⟩
        · have hA0:A=0:=by omega
          have hb:(A==1)=false:=by rw[hA0];rfl
          rw[hb]
          simp only[xY,yI]
          rw[hA0]at step
          subst q4
          have h5:=q5 (p2,o) rfl
          dsimp only at h5
          obtain⟨e',h'',ov'',S'',r1,r2,r3,r4,r5⟩:=Eb f _ h' ov' q2 rfl (by dsimp only;omega)
          exact⟨e',h'',ov'',S'',wj step r1,r2,r3,(fr2.trans q3).trans r4,r5⟩
     by_cases d0:B=0
     · rw [if_pos d0]
       obtain⟨h',ov',S',q1,q2,q3,q4⟩:=Hn b2 he2
       rw[hat,hout]at q4
       have d0':((B:Int)==0)=true:=xc (by omega)
       refine close _ h' ov' S' ?_ q2 q3 q4 (fun q hq=> ?_)
       · simp only[I]at *
         simp only[AP.f8L0,go_sem,gf,a1,b1,gf2,ce,d0',q1]
       · unfold Az at hq
         dsimp only at hq
         split at hq
         · split at hq
           · obtain⟨p2,o⟩:=q
             have:=CJ hq;dsimp only;omega
           · cases hq
         · cases hq
     · rw [if_neg d0]
       have d0':((B:Int)==0)=false:=xb (by omega)
       by_cases d1:B=1
       · rw[if_pos d1]
         have d1':((B:Int)==1)=true:=xc (by omega)
         have f1:=HY h2
         have m1:=Bj h2 (zj zq) zq (by rw[AG];omega) (AJ _ _)
         have f2:=Jt h2
         have m2:=Bj h2 (zj (List.replicate 30 5)) (List.replicate 30 5) (by rw[QV];omega) (AJ _ _)
         obtain⟨h',ov',S',q1,q2,q3,q4⟩:=Fl zq (List.replicate 30 5) (by rw[AG];omega) (by rw[QV];omega) b2 he2
         rw[hat,hout]at q4
         refine close _ h' ov' S' ?_ q2 q3 q4 (fun q hq=>by obtain⟨p2,o⟩:=q;have:=AR hq;dsimp only;omega)
         generalize yT zq=bf at *
         generalize yT (List.replicate 30 5)=bd at *
         generalize zj zq=vf at *
         generalize zj (List.replicate 30 5)=vd at *
         simp only[I]at *
         simp only[AP.f8L0,go_sem,gf,a1,b1,gf2,ce,d0',d1',f1,m1,f2,m2,q1]
       · rw [if_neg d1]
         have d1':((B:Int)==1)=false:=xb (by omega)
         by_cases d2:B=2
         · rw [if_pos d2]
           have d2':((B:Int)==2)=true:=xc (by omega)
           obtain⟨h',ov',S',q1,q2,q3,q4⟩:=F9 b2 he2
           rw[hat,hout]at q4
           refine close _ h' ov' S' ?_ q2 q3 q4 (fun q hq=> ?_)
           · simp only[I]at *
             simp only[AP.f8L0,go_sem,gf,a1,b1,gf2,ce,d0',d1',d2',q1]
           · have hb:AE c.text c.most S.at_ S.out=.ok (yN c.text S.at_ 1==1,q.1,q.2):=by
              unfold AE
              rw[if_pos hp]
              dsimp only
              rw[←hB,if_neg d0,if_neg d1,if_pos d2,hq]
             have:=D7 hb
             exact this
         · rw[if_neg d2]
           have d2':((B:Int)==2)=false:=xb (by omega)
           obtain⟨h',q1,q2,q3⟩:=Ae b2
           refine close (.error 700) h' ov _ ?_ q2 q3 ⟨by simp [yQ,he2],by decide⟩ (fun q hq=>by cases hq)
           simp only[I]at *
           simp only[AP.f8L0,go_sem,gf,a1,b1,gf2,ce,d0',d1',d2',q1]
   · rw [if_neg hp]
     have he2:S2.e=700:=by
      by_cases q1:S.at_+1≤8* c.text.size
      · have e1:yY c 1 S=(yN c.text S.at_ 1,{S with at_:=S.at_+1}):=by rw[yY,if_pos q1]
        rw[e1]at hS1;dsimp only at hS1
        have e2:yY c 2 S1=(0,{S1 with e:=700}):=by rw[yY,if_neg (by rw[hS1];show¬S.at_+1+2≤_;omega),yQ,if_pos (by rw[hS1];exact he)]
        rw[e2]at hS2
        rw[hS2]
      · have e1:yY c 1 S=(0,{S with e:=700}):=by rw[yY,if_neg q1,yQ,if_pos he]
        rw[e1]at hS1;dsimp only at hS1
        have e2:yY c 2 S1=(0,S1):=by rw[yY,if_neg (by rw[hS1];show¬S.at_+2≤_;omega),yQ,if_neg (by rw[hS1];simp)]
        rw[e2]at hS2
        rw[hS2,hS1]
     have ce:(S2.e !=0)=true:=xh (by rw[he2];decide)
     refine⟨[(7,.aH c.f 0),(8,I A),(9,I B),(38,.bool true)],h2,ov,S2,wh ?_,rfl,b2,fr2,he2,by decide⟩
     simp only[I]at *
     simp only[AP.f8L0,go_sem,gf,a1,b1,gf2,ce]
theorem Ga (h:H) (t:ByteArray) (most:Int) (hs:t.size<1125899906842624):aV AP.A 8 [.str t,I most] h=some (Hq (Aa t most),h):=by
 unfold Aa
 by_cases c1:most<0
 · rw[if_pos (.inl c1)]
   refine wX (fn:=AP.f8) (h2:=h.eY) (e:=[(4,.str ⟨#[]⟩),(5,I 0),(6,I 700)]) rfl rfl rfl ?_ rfl rfl
   simp only[I]at *
   simp only[AP.f8,go_sem,QM c1]
 by_cases c2:8192<most
 · rw[if_pos (.inr c2)]
   refine wX (fn:=AP.f8) (h2:=h.eY) (e:=[(4,.str ⟨#[]⟩),(5,I 0),(6,I 700)]) rfl rfl rfl ?_ rfl rfl
   simp only[I]at *
   simp only[AP.f8,go_sem,QL c1,QM c2]
 rw[if_neg (by omega)]
 obtain⟨h1,hh1⟩:∃g,g=h.eY.alloc [.str t,I 0,.aT,I most,I 0]:=⟨_,rfl⟩
 have st:Ft ⟨h.next,t,most⟩ ⟨0,[],0⟩ h1 .aT:=by
  refine⟨?_,.inl ⟨rfl,rfl⟩, ?_,by simp [AV.id?], ?_,hs,by simp,by simp;omega,by show most≤900000;omega⟩
  · rw[hh1,H.bc,if_pos (show h.next=h.eY.next from rfl)];rfl
  · rw[hh1];simp
  · rw[hh1];simp
 obtain⟨e',h3,ov,S,q1,q2,q3,q4,q5⟩:=Eb (8* t.size+1) ⟨0,[],0⟩ h1 .aT st rfl (by show 8* t.size<0+(8* t.size+1);omega)
 have gf:=q3.gf
 have bx:∀e:Env,look e 19=.agg [.str t,.int .i64 0,.aT,.int .i64 most,.int .i64 0]→bh e (.box 5 (.t 19))=some ([.str t,.int .i64 0,.aT,.int .i64 most,.int .i64 0],fun i=>.aH i 0):=by
  intro e q;simp only[bh,vt,q];rfl
 have fl1:eZ [.str ⟨#[]⟩,.int .i64 0] [(0,1,.str t)]=some [.str t,.int .i64 0]:=rfl
 have fl2:eZ [.str ⟨#[]⟩,.int .i64 0,.aT,.int .i64 0,.int .i64 0] [(0,2,.agg [.str t,.int .i64 0]),(3,1,.int .i64 most)]=some [.str t,.int .i64 0,.aT,.int .i64 most,.int .i64 0]:=rfl
 have hn:h.eY.next=h.next:=rfl
 dsimp only at q5
 cases hi:zR t most (8* t.size+1) 0 []with
 | error k =>
   rw[hi]at q5
   have c3:(S.e !=0)=true:=xh (by rw[q5.1];exact q5.2)
   have hk:S.e=k:=q5.1
   refine wX (fn:=AP.f8) (h2:=h3) (e:=[(4,.str ⟨#[]⟩),(5,I 0),(6,I k)]) rfl rfl rfl ?_ rfl rfl
   rw[hk]at gf c3
   simp only[I]at *
   simp only[AP.f8,go_sem,QL c1,QL c2,hn,QY,Q2,fl1,fl2]
   rw[bx _ rfl]
   simp only[go_sem,←hh1,hn,vp,q1,q2,gf,c3]
 | ok z =>
   obtain⟨p,o⟩:=z
   rw[hi]at q5
   simp only[Fin]at q5
   have c3:(S.e !=0)=false:=xe (by rw[q5])
   have hb:=GA q3.own
   subst q5
   dsimp only at gf hb c3
   have hle:=q3.zC
   dsimp only at hle
   have w2:IntKind.wrap .i64 ((p:Int)+7)=((p+7:Nat):Int):=yJ (n:=p+7) (by omega)
   have qd:bH .quo (.int .i64 ((p+7:Nat):Int)) (.int .i64 8)=some (.int .i64 (((p+7)/8:Nat):Int)):=by
    rw[u9 _ _ _ (by omega),show(8:Int)=((8:Nat):Int)from rfl,zN,yJ (by omega)]
   refine wX (fn:=AP.f8) (h2:=h3) (e:=[(4,.str (bytesOf o)),(5,I ((p+7)/8:Nat)),(6,I 0)]) rfl rfl rfl ?_ rfl rfl
   generalize (p+7)/8=P at *
   generalize p+7=P7 at *
   simp only[I]at *
   simp only[AP.f8,go_sem,QL c1,QL c2,hn,QY,Q2,fl1,fl2]
   rw[bx _ rfl]
   simp only[go_sem,←hh1,hn,vp,q1,q2,gf,c3,w2,hb,qd]
abbrev E7 (k:Int):Prop:=k=700∨k=701
theorem DL {t:ByteArray} {most k:Int}:∀{n p:Nat} {out:List Nat},zG t most n p out=.error k→E7 k
 |0,p,out,h=>by cases h
 | n + 1, p, out, h => by
   unfold zG at h
   split at h
   · split at h
     · cases h;exact .inr rfl
     · exact DL h
   · cases h;exact .inl rfl
theorem FR {t:ByteArray} {most k:Int} {p:Nat} {out:List Nat} (h:Az t most p out=.error k):E7 k:=by
 unfold Az at h
 dsimp only at h
 split at h
 · split at h
   · exact DL h
   · cases h;exact .inl rfl
 · cases h;exact .inl rfl
theorem D8 {most k:Int} {d:Nat}:∀{n:Nat} {out:List Nat},Bi most d n out=.error k→E7 k
 |0,out,h=>by cases h
 | n + 1, out, h => by
   unfold Bi at h
   split at h
   · cases h;exact .inr rfl
   · exact D8 h
theorem Hd {t : ByteArray} {most k : Int} {dl : List Int} {y p : Nat} {out : List Nat} (h : B8 t most dl y p out = .error k) : E7 k := by
 unfold B8 at h
 split at h
 · cases h;exact .inl rfl
 · split at h
   · split at h
     · cases h;exact .inl rfl
     · split at h
       · cases h;exact .inl rfl
       · split at h
         · split at h
           · cases h
           · rename_i q;cases h;exact D8 q
         · cases h;exact .inl rfl
   · cases h;exact .inl rfl
theorem A7 {t : ByteArray} {most k : Int} {ll dl : List Int} : ∀ {n p : Nat} {out : List Nat}, zX t most ll dl n p out = .error k → E7 k
 |0,p,out,h=>by cases h;exact .inl rfl
 | n + 1, p, out, h => by
   unfold zX at h
   split at h
   · cases h;exact .inl rfl
   · split at h
     · split at h
       · cases h;exact .inr rfl
       · exact A7 h
     · split at h
       · cases h
       · split at h
         · exact A7 h
         · rename_i q;cases h;exact Hd q
theorem HS {t : ByteArray} {most k : Int} {p : Nat} {out : List Nat} (h : DS t most p out = .error k) : E7 k := by
 unfold DS at h
 dsimp only at h
 split at h
 · split at h
   · cases h;exact .inl rfl
   · split at h
     · cases h;exact .inl rfl
     · split at h
       · cases h;exact .inl rfl
       · exact A7 h
 · cases h;exact .inl rfl
theorem F4 {t : ByteArray} {most k : Int} {p : Nat} {out : List Nat} (h : AE t most p out = .error k) : E7 k := by
 unfold AE at h
 dsimp only at h
 split at h
 · split at h
   · cases h
   · rename_i q
     cases h
     split at q
     · exact FR q
     · split at q
       · exact A7 q
       · split at q
         · exact HS q
         · cases q;exact .inl rfl
 · cases h;exact .inl rfl
theorem CP {t:ByteArray} {most k:Int}:∀{n p:Nat} {out:List Nat},zR t most n p out=.error k→E7 k
 | 0, p, out, h => by
   unfold zR at h
   cases h;exact .inl rfl
 | n + 1, p, out, h => by
   unfold zR at h
   split at h
   · rename_i q;cases h;exact F4 q
   · split at h
     · cases h
     · exact CP h
theorem Ch {t:ByteArray} {most k:Int} (h:Aa t most=.error k):E7 k:=by
 unfold Aa at h
 split at h
 · cases h;exact .inl rfl
 · split at h
   · cases h
   · rename_i q;cases h;exact CP q
theorem dt {p:Prop} [Decidable p] (h:p):decide p=true:=QM h
theorem df {p:Prop} [Decidable p] (h:¬p):decide p=false:=QL h
theorem Qr {a b:Int} (h:a=b):(a==b)=true:=by simp [h]
theorem Qe {a b:Int} (h:¬a=b):(a==b)=false:=by simp [h]
theorem Qv {a b:Int} (h:¬a=b):(a !=b)=true:=by simp [h]
theorem Qu {a b:Int} (h:a=b):(a !=b)=false:=by simp [h]
theorem wi {n:Int} (h: -9223372036854775808≤n∧n<9223372036854775808):IntKind.wrap .i64 n=n:=wJ h.1 (by omega)
theorem wb {n:Int} (h:0≤n∧n<256):IntKind.wrap .u8 n=n:=by
 simp [IntKind.wrap,IntKind.bits,IntKind.signed];omega
theorem Ng {i:Int} {n:Nat} (h:0≤i∧i<n):dH (.int .i64 i) n=some i.toNat:=by
 simp [dH,pX,h]
def at_:Nat→aK→aK
 |0,.seq a _=>a
 |0,c=>c
 |n+1,.seq _ b=>at_ n b
 |_+1,c=>c
def P1:Nat→aK→aK
 |0,c=>c
 |n+1,.seq _ b=>P1 n b
 |_+1,c=>c
theorem Nk (a b:aK):at_ 0 (.seq a b)=a:=rfl
theorem Nj (n:Nat) (a b:aK):at_ (n+1) (.seq a b)=at_ n b:=rfl
theorem PU (c:aK):P1 0 c=c:=rfl
theorem PT (n:Nat) (a b:aK):P1 (n+1) (.seq a b)=P1 n b:=rfl
theorem Cb {h:H} {id i:Nat} (e:¬i=id):(h.del id).get i=h.get i:=by rw[H.fg,if_neg e]
theorem Co (h:H):h.eY.next=h.next:=xU rfl rfl
theorem Cc (h:H):h.eY.floor=h.next:=xU rfl rfl
theorem Cg (h:H) (i:Nat):h.eY.get i=h.get i:=xU rfl rfl
theorem EU (h:H) (i:Nat):(h.del i).next=h.next:=xU rfl rfl
theorem EO (h:H) (i:Nat):(h.del i).floor=h.floor:=xU rfl rfl
theorem yS {h:H} {cs:List AV} {i:Nat} (e:i=h.next):(h.alloc cs).get i=some cs:=by rw[H.bc,if_pos e]
theorem yR {h:H} {cs:List AV} {i:Nat} (e:¬i=h.next):(h.alloc cs).get i=h.get i:=by rw[H.bc,if_neg e]
theorem zc {h:H} {cs:List AV} {id i:Nat} (e:i=id):(h.set id cs).get i=(h.get i).map fun _=>cs:=by rw[H.eh,if_pos e,e]
theorem yX {h:H} {cs:List AV} {id i:Nat} (e:¬i=id):(h.set id cs).get i=h.get i:=by rw[H.eh,if_neg e]
def zL {α:Type} (b:Bool) (x:α):Option α:=if b then some x else none
theorem GG {α:Type} (x:α):zL true x=some x:=rfl
theorem I4 (h:H) (id off n:Nat) (v cs:List AV):wZ h id off n v (some cs)=zL (decide (h.floor≤id)&&(decide (v.length=n)&&(decide (off+n≤cs.length)&&AV.aG v))) (h.set id (setFrom cs off v)):=by
 simp only[wZ,xX,zL]
 by_cases c:h.floor≤id∧v.length=n∧off+n≤cs.length∧AV.aG v=true
 · rw[if_pos c];obtain⟨c1,c2,c3,c4⟩:=c;simp [c1,c2,c3,c4]
 · rw[if_neg c,if_neg];simpa using c
theorem Qw (n:Nat) (cs:List AV) (off:Nat):jj true n cs off=zL (decide (off+n≤cs.length)) (.agg ((cs.drop off).take n)):=by
 simp only[jj,zL,if_true,QW]
theorem HW (z:List AV):eZ z []=some z:=rfl
def Fo (r:List (Nat×Nat×AV)) (p:Option (List AV)):Option (List AV):=p.bind fun z=>eZ z r
theorem GL (r:List (Nat×Nat×AV)) (z:List AV):Fo r (some z)=eZ z r:=rfl
theorem HV (z:List AV) (o n:Nat) (v:AV) (r:List (Nat×Nat×AV)):eZ z ((o,n,v)::r)=Fo r (zL (decide (v.cells.length=n)&&(decide (o+n≤z.length)&&AV.aG v.cells)) (setFrom z o v.cells)):=by
 simp only[eZ,zL]
 by_cases c:v.cells.length=n∧o+n≤z.length∧AV.aG v.cells=true
 · rw[if_pos c];obtain⟨c1,c2,c3⟩:=c;simp [c1,c2,c3,Fo]
 · rw[if_neg c,if_neg]; · rfl
   simpa using c
def Fb (p:Option (List AV)) (f:Nat→AV):Option (List AV×(Nat→AV)):=p.bind fun cs=>some (cs,f)
theorem HL (cs:List AV) (f:Nat→AV):Fb (some cs) f=some (cs,f):=rfl
theorem D4 (e:Env) (z:List AV):bh e (.alloc z)=Fb (zL (AV.aG z) z) (fun i=>.aH i 0):=by
 simp only[bh,zL];split<;>rfl
theorem GB (e:Env) (n:Nat) (x:X):bh e (.box n x)=Fb (zL (decide ((x.ev e).cells.length=n)&&AV.aG (x.ev e).cells) (x.ev e).cells) (fun i=>.aH i 0):=by
 simp only[bh,zL]
 by_cases c:(x.ev e).cells.length=n∧AV.aG (x.ev e).cells=true
 · rw[if_pos c];simp [c,Fb]
 · rw[if_neg c,if_neg]; · rfl
   simpa using c
theorem Db (e:Env) (sz len:Nat) (z:List AV) (ps:List (Nat×X)):bh e (.dw sz len z ps)=Fb (Fo (ps.map fun p=>(p.1* sz,sz,p.2.ev e)) (zL (decide (z.length=sz)&&(decide (0<sz)&&AV.aG z)) (eQ len z))) (fun i=>.aI i 0 len sz):=by
 simp only[bh,zL]
 by_cases c:z.length=sz∧0<sz∧AV.aG z=true
 · rw[if_pos c];simp [c,Fb,Fo]
 · rw[if_neg c,if_neg]; · rfl
   simpa using c
theorem IB (z:List AV):eQ 0 z=[]:=rfl
theorem IA (n:Nat) (z:List AV):eQ (n+1) z=z++eQ n z:=rfl
def MI (AH:List Nat) (e:Env) (h:H) (b:Bool):eH:=if b then some (.normal,aC e AH,h)else none
theorem Ig (AH:List Nat) (e:Env) (h:H):MI AH e h true=some (.normal,aC e AH,h):=rfl
def Qs (c:ah) (ops:List ak) (fl:List (Nat×List Nat)) (AH:List Nat) (p:Option (Env×H×List H)):eH:=p.bind fun q=>MI AH q.1 q.2.1 (bq c ops q.1 q.2.2 fl)
theorem JY (c:ah) (ops:List ak) (fl:List (Nat×List Nat)) (AH:List Nat) (e:Env) (h:H) (gs:List H):Qs c ops fl AH (some (e,h,gs))=MI AH e h (bq c ops e gs fl):=rfl
theorem Gx (c:ah) (l:bW) (ord:List Nat) (ops:List ak) (x:Nat×List Nat) (fl:List (Nat×List Nat)) (AH:List Nat) (e:Env) (h:H):aP c l (.jS ord ops (x::fl) AH) e h=Qs c ops (x::fl) AH (aR c ops e h):=by
 rw[aP];rfl
theorem Ko (c:ah) (ops:List ak) (e:Env) (gs:List H):bq c ops e gs []=true:=rfl
def PS (c:ah) (ops:List ak) (e:Env) (gs:List H) (i:Nat) (ks:List Nat):Bool:=ks.all (bU c ops e gs i)
theorem Kn (c:ah) (ops:List ak) (e:Env) (gs:List H) (i:Nat) (ks:List Nat) (r:List (Nat×List Nat)):bq c ops e gs ((i,ks)::r)=(PS c ops e gs i ks&&bq c ops e gs r):=rfl
theorem Kl (c:ah) (ops:List ak) (e:Env) (gs:List H) (i:Nat):PS c ops e gs i []=true:=rfl
def IY (c : ah) (e : Env) (o : Option ak) (g : Option H) : Bool := match o, g with
 | some o, some g =>
   if o.op.aM then
    match o.dst.map (look e)with
    |some (.cf [])=>true
    | some v => (match v.id?, bh e o.op with
      |some id,some b=>(match g.get id with|some cs=>AV.iB cs b.1|none=>false)
      |_,_=>false)
    |none=>false
   else match o.dst.map (look e)with
    |some v=>(match aj c o e g with|some (u,_)=>AV.beq u v|none=>false)
    |none=>false
 |_,_=>false
theorem Kk (c:ah) (ops:List ak) (e:Env) (gs:List H) (i k:Nat) (r:List Nat):PS c ops e gs i (k::r)=(IY c e (ops[i]?) (gs[k]?)&&PS c ops e gs i r):=by
 unfold PS
 rw[List.all_cons]
 congr 1
def Qn (v:AV) (p:Option (AV×H)):Bool:=match p with|some (u,_)=>AV.beq u v|none=>false
theorem Km (v u:AV) (h:H):Qn v (some (u,h))=AV.beq u v:=rfl
def M9 (b:Bool) (x y:Bool):Bool:=if b then x else y
theorem Ki (x y:Bool):M9 false x y=y:=rfl
def DW (c:ah) (e:Env) (o:Option ak) (g:Option H):Bool:=IY c e o g
theorem Kh (c:ah) (e:Env) (d:Nat) (op:cy) (g:H):IY c e (some ⟨some d,op,none⟩) (some g)=M9 op.aM (DW c e (some ⟨some d,op,none⟩) (some g)) (Qn (look e d) (ai c e g op)):=by
 unfold DW IY M9
 dsimp only
 cases op.aM<;>rfl
theorem Kg (c:ah) (e:Env) (d:Nat) (op:cy) (k:Nat) (w:Bool) (g:H):IY c e (some ⟨some d,op,some (k,w)⟩) (some g)=M9 op.aM (DW c e (some ⟨some d,op,some (k,w)⟩) (some g)) (Qn (look e d) (nC w c e g op (look e k))):=by
 unfold DW IY M9
 dsimp only
 cases op.aM with
 |true=>rfl
 |false=>rw[oX];rfl
mutual
theorem beq_refl:∀a:AV,AV.beq a a=true
 | .bot=>rfl
 | .bool b=>by simp [AV.beq]
 | .int k n=>by simp [AV.beq]
 | .str s=>CZ s
 | .c9=>rfl
 | .aH i o=>by simp [AV.beq]
 | .aO c o=>by simp [AV.beq,zH c]
 | .aT=>rfl
 | .aI i o l z=>by simp [AV.beq]
 | .aZ t c o l z=>by simp [AV.beq,zH c]
 | .fn f a b=>by simp [AV.beq,zH a,zH b]
 | .fU=>rfl
 | .iface t v=>by simp [AV.beq,beq_refl v]
 | .fV=>rfl
 | .agg c=>by simp [AV.beq,zH c]
 | .cf c=>by simp [AV.beq,zH c]
theorem zH:∀l:List AV,AV.iB l l=true
 |[]=>rfl
 |a::l=>by simp [AV.iB,beq_refl a,zH l]
end
theorem Kj (x y:Bool):M9 true x y=x:=rfl
def Nq (c:Option (List AV)) (d:List AV):Bool:=match c with|some cs=>AV.iB cs d|none=>false
theorem JV (c d:List AV):Nq (some c) d=AV.iB c d:=rfl
def E3 (v : AV) (b : Option (List AV × (Nat → AV))) (g : H) : Bool := match v with
 | .cf []=>true
 | v => match v.id?, b with
   |some id,some b=>Nq (g.get id) b.1
   |_,_=>false
theorem I3 (b:Option (List AV×(Nat→AV))) (g:H):E3 (.cf []) b g=true:=rfl
theorem I0 (i o:Nat) (cs:List AV) (f:Nat→AV) (g:H):E3 (.aH i o) (some (cs,f)) g=Nq (g.get i) cs:=rfl
theorem IZ (i o l z:Nat) (cs:List AV) (f:Nat→AV) (g:H):E3 (.aI i o l z) (some (cs,f)) g=Nq (g.get i) cs:=rfl
theorem C7 {c : ah} {e : Env} {d : Nat} {op : cy} {gd : Option (Nat × Bool)} {g : H} (hb : op.aM = true) : DW c e (some ⟨some d, op, gd⟩) (some g) = E3 (look e d) (bh e op) g := by
 unfold DW IY
 dsimp only
 rw[hb,if_pos rfl]
 show (match some (look e d) with
  |some (.cf [])=>true
  | some v => (match v.id?, bh e op with
    |some id,some b=>(match g.get id with|some cs=>AV.iB cs b.1|none=>false)
    |_,_=>false)
  |none=>false)=_
 generalize look e d=v
 unfold E3 Nq
 cases v with
 |cf vs=>cases vs<;>rfl
 |_=>cases bh e op<;>rfl
theorem DK (c:ah) (e:Env) (d:Nat) (z:List AV) (gd:Option (Nat×Bool)) (g:H):DW c e (some ⟨some d,.alloc z,gd⟩) (some g)=E3 (look e d) (bh e (.alloc z)) g:=C7 rfl
theorem FQ (c:ah) (e:Env) (d n:Nat) (x:X) (gd:Option (Nat×Bool)) (g:H):DW c e (some ⟨some d,.box n x,gd⟩) (some g)=E3 (look e d) (bh e (.box n x)) g:=C7 rfl
theorem CV (c:ah) (e:Env) (d n m:Nat) (z:List AV) (ps:List (Nat×X)) (gd:Option (Nat×Bool)) (g:H):DW c e (some ⟨some d,.dw n m z ps,gd⟩) (some g)=E3 (look e d) (bh e (.dw n m z ps)) g:=C7 rfl
theorem EB (c:ah) (e:Env) (d n m:Nat) (z:List AV) (x y:X) (gd:Option (Nat×Bool)) (g:H):DW c e (some ⟨some d,.jU n m z x y,gd⟩) (some g)=E3 (look e d) (bh e (.jU n m z x y)) g:=C7 rfl
theorem E6 (b:Bool):AV.beq (.bool b) (.bool b)=true:=by simp [AV.beq]
theorem Fa:AV.beq (.cf []) (.cf [])=true:=rfl
theorem E8:AV.beq .aT .aT=true:=rfl
theorem D3:AV.beq .c9 .c9=true:=rfl
theorem Ij (sz id off len:Nat) (i:AV):iy sz (.aI id off len sz) i=xu id off sz (dH i len):=by simp [iy,xu]
theorem Ii (t:Bool) (cells:List AV) (sz off len:Nat) (i:AV):iy sz (.aZ t cells off len sz) i=xy cells off sz (dH i len):=by simp [iy,xy]
def Iz (n:Nat) (z:List AV):List AV:=eQ n z
def J3 (sz bytes:Nat) (zero:List AV) (l c:AV):Option (List AV×(Nat→AV)):=
 match l,c with
 | .int .i64 l,.int .i64 c=>Fb (zL (decide (0≤l)&&(decide (l≤c)&&(decide (c≤9223372036854775807)&&(decide ((bytes:Int)* c≤281474976710656)&&(decide (zero.length=sz)&&(decide (0<sz)&&AV.aG zero)))))) (Iz c.toNat zero)) (fun i=>.aI i 0 l.toNat sz)
 |_,_=>none
theorem ET (sz bytes:Nat) (zero:List AV) (l c:Int):J3 sz bytes zero (.int .i64 l) (.int .i64 c)=Fb (zL (decide (0≤l)&&(decide (l≤c)&&(decide (c≤9223372036854775807)&&(decide ((bytes:Int)* c≤281474976710656)&&(decide (zero.length=sz)&&(decide (0<sz)&&AV.aG zero)))))) (Iz c.toNat zero)) (fun i=>.aI i 0 l.toNat sz):=rfl
theorem Fc (e : Env) (sz bytes : Nat) (zero : List AV) (l c : X) : bh e (.jU sz bytes zero l c) = J3 sz bytes zero (l.ev e) (c.ev e) := by
 simp only[bh]
 cases l.ev e with
 | int k l => cases k <;> cases c.ev e with
   | int k2 c => cases k2 <;> first
     |rfl
     | (simp only [ET, zL]
        by_cases q:0≤l∧l≤c∧c≤9223372036854775807∧(bytes:Int)* c≤281474976710656∧zero.length=sz∧0<sz∧AV.aG zero=true
        · rw[if_pos q];obtain⟨q1,q2,q3,q4,q5,q6,q7⟩:=q
          rw[if_pos]
          · rfl
          · simp [q1,q2,q3,q4,q5,q6,q7]
        · rw[if_neg q,if_neg]
          · rfl
          · simpa using q)
   |_=>rfl
 |_=>cases c.ev e<;>rfl
theorem HH (i o l z:Nat):j6 false (.aI i o l z)=some (.int .i64 l):=rfl
theorem HG:j6 false .aT=some (.int .i64 0):=rfl
theorem HF (t:Bool) (c:List AV) (o l z:Nat):j6 false (.aZ t c o l z)=some (.int .i64 l):=rfl
theorem BV (s:ByteArray):j6 true (.str s)=some (.int .i64 s.size):=rfl
theorem Je (a b:Nat):((a:Int)+(b:Int)).toNat=a+b:=by omega
theorem Bt (a:Nat):((a:Int)).toNat=a:=by omega
def AL (s:ByteArray) (i:Nat):Nat:=((s[i]?).map (·.toNat)).getD 0
theorem Bl (s:ByteArray) (i:Nat):AL s i<256:=by
 unfold AL
 cases s[i]? with
 |none=>simp
 |some b=>simp;exact b.toNat_lt
theorem C5 {s:ByteArray} {i:Int} (h:0≤i∧i<s.size):oD (.str s) (.int .i64 i)=some (.int .u8 (AL s i.toNat:Nat)):=by
 have hi:i.toNat<s.size:=by omega
 simp [oD,Ng h,AL,hi]
def CH {α:Type} (b:Bool) (x y:Option α):Option α:=if b then x else y
theorem IE {α:Type} (x y:Option α):CH true x y=x:=rfl
theorem ID {α:Type} (x y:Option α):CH false x y=y:=rfl
def MU (n o k:Nat) (p:Option (List AV)):Option (Nat×List AV):=p.bind fun cs=>zL (decide (o+k* n≤cs.length)) (k,(cs.drop o).take (k* n))
theorem IX (n o k:Nat) (cs:List AV):MU n o k (some cs)=zL (decide (o+k* n≤cs.length)) (k,(cs.drop o).take (k* n)):=rfl
theorem J8 (h:H) (n p o k:Nat):aW h n (.aI p o k n)=MU n o k (h.get p):=by
 simp only[aW,if_true,MU]
 cases h.get p with
 |none=>rfl
 |some cs=>simp only[xX,zL,QW]
theorem J6 (h:H) (t:Bool) (n o k:Nat) (cs:List AV):aW h n (.aZ t cs o k n)=zL (decide (o+k* n≤cs.length)) (k,(cs.drop o).take (k* n)):=by
 simp only[aW,if_true,zL,QW]
theorem J7 (h:H) (n:Nat):aW h n .aT=some (0,[]):=xU rfl rfl
theorem J9 (h:H) (s:ByteArray):aW h 1 (.str s)=some (s.size,s.data.toList.map fun b=>.int .u8 b.toNat):=xU rfl rfl
def Ni (h:H) (n z:Nat) (a:AV) (p:Option (Nat×List AV)):Option (AV×H):=p.bind fun r=>eT h n z a r.1 r.2
theorem HJ (h:H) (n z:Nat) (a:AV) (m:Nat) (bs:List AV):Ni h n z a (some (m,bs))=eT h n z a m bs:=rfl
theorem JT (h:H) (n z:Nat) (a b:AV):mV h n z a b=Ni h n z a (aW h n b):=xU rfl rfl
def P5 (h:H) (n z p o k m:Nat) (bs:List AV) (q:Option (List AV)):Option (AV×H):=q.bind fun cs=>
 CH (decide (o+(k+m)* n≤cs.length)) (some (.aI p o (k+m) n,h.set p (setFrom cs (o+k* n) bs))) (CH (decide (o+k* n=cs.length)&&roomy z (k+m)) (some (.aI h.next 0 (k+m) n,(h.del p).alloc (cs.drop o++bs))) none)
theorem JQ (h:H) (n z p o k m:Nat) (bs cs:List AV):P5 h n z p o k m bs (some cs)=CH (decide (o+(k+m)* n≤cs.length)) (some (.aI p o (k+m) n,h.set p (setFrom cs (o+k* n) bs))) (CH (decide (o+k* n=cs.length)&&roomy z (k+m)) (some (.aI h.next 0 (k+m) n,(h.del p).alloc (cs.drop o++bs))) none):=rfl
theorem JS (h : H) (n z p o k m : Nat) (bs : List AV) : eT h n z (.aI p o k n) m bs = CH (decide (m = 0)) (some (.aI p o k n, h)) (CH (AV.aG bs && (decide (0 < n) && decide (h.floor ≤ p))) (P5 h n z p o k m bs (h.get p)) none) := by
 unfold eT CH
 by_cases c:m=0
 · simp [c]
 · rw [if_neg c]
   simp only[QW,if_neg c]
   by_cases c1:AV.aG bs=false∨n=0
   · rw[if_pos c1,if_neg]
     rcases c1 with c1|c1
     · simp [c1]
     · simp [c1]
   · rw[if_neg c1]
     have q1:AV.aG bs=true:=by cases q:AV.aG bs with|true=>rfl|false=>exact absurd (.inl q) c1
     by_cases c2:h.floor≤p
     · have qq:(AV.aG bs&&(decide (0<n)&&decide (h.floor≤p)))=true:=by simp [q1,c2];omega
       simp only[true_and,if_pos c2,qq,if_true,P5,CH]
       cases h.get p with
       |none=>rfl
       |some cs=>simp only[xX,QW,yc]
     · have qq:(AV.aG bs&&(decide (0<n)&&decide (h.floor≤p)))=false:=by simp [c2]
       simp only[true_and,if_neg c2,qq];rfl
theorem JR (h:H) (n z m:Nat) (bs:List AV):eT h n z .aT m bs=CH (decide (m=0)) (some (.aT,h)) (CH (AV.aG bs&&(decide (0<n)&&roomy z m)) (some (.aI h.next 0 m n,h.alloc bs)) none):=by
 unfold eT CH
 by_cases c:m=0
 · simp [c]
 · rw[if_neg c]
   simp only[QW,if_neg c]
   by_cases c1:AV.aG bs=false∨n=0
   · rw[if_pos c1,if_neg]
     rcases c1 with c1|c1
     · simp [c1]
     · simp [c1]
   · rw[if_neg c1]
     have q1:AV.aG bs=true:=by cases q:AV.aG bs with|true=>rfl|false=>exact absurd (.inl q) c1
     have q2:0<n:=by omega
     simp [q1,q2]
theorem GU {b n:Nat} (h:1≤b∧(n+n/4+512)* b≤281474976710656):roomy b n=true:=by simp only[roomy,h.1,h.2,and_self,decide_true]
theorem EP {α:Type} {C:α→List AV} {n:Nat} (hC:∀x,(C x).length=n):∀{l:List α} {i f:Nat} {x:α},l[i]?=some x→f<n→(l.flatMap C)[i* n+f]?=(C x)[f]?
 |[],i,f,x,h,_=>by simp at h
 | y :: l, 0, f, x, h, hf => by
   obtain rfl:y=x:=by simpa using h
   rw[List.flatMap_cons,Nat.zero_mul,ym,List.getElem?_append_left (by rw[hC];exact hf)]
 | y :: l, i + 1, f, x, h, hf => by
   rw[List.flatMap_cons,List.getElem?_append_right (by rw[hC,yD];omega),hC]
   rw[show(i+1)* n+f-n=i* n+f by rw[yD];omega]
   exact EP hC (by simpa using h) hf
def DY (n:Nat) (h:H) (v:AV) (k:Nat) (cs:List AV):Prop:=aW h n v=some (k,cs)∧cs.length=k* n∧∀s,v≠.str s
theorem Rd.M7 {h:H} {v:AV} {cs:List AV} (r:Rd h v cs):DY 1 h v cs.length cs:=⟨r.1,by omega,r.2⟩
theorem DY.len {n:Nat} {h:H} {v:AV} {k:Nat} {cs:List AV} (r:DY n h v k cs):j6 false v=some (.int .i64 k):=by
 obtain⟨r,_,hs⟩:=r
 unfold aW at r
 split at r
 · obtain⟨h1,h2⟩:=xR (xO r);subst h1;rfl
 · exact absurd rfl (hs _)
 · split at r
   · simp only[xN]at r
     obtain⟨c,_,r⟩:=r
     split at r
     · obtain⟨h1,h2⟩:=xR (xO r);simp [j6,h1]
     · cases r
   · cases r
 · split at r
   · split at r
     · obtain⟨h1,h2⟩:=xR (xO r);simp [j6,h1]
     · cases r
   · cases r
 · cases r
theorem DY.mono {n:Nat} {h g:H} {v:AV} {k:Nat} {cs:List AV} (r:DY n h v k cs) (hg:∀id c,h.get id=some c→g.get id=some c):DY n g v k cs:=by
 obtain⟨r,hl,hs⟩:=r
 refine⟨?_,hl,hs⟩
 unfold aW at r ⊢
 split at r
 · exact r
 · exact r
 · split at r
   · rename_i q;simp only[if_pos q,xN]at r ⊢
     obtain⟨c,h1,r⟩:=r
     exact⟨c,hg _ _ h1,r⟩
   · cases r
 · exact r
 · cases r
theorem DY.at_ {n : Nat} {h : H} {v : AV} {k : Nat} {cs : List AV} (r : DY n h v k cs) : ∃ ad : Int → Nat → AV,
 (∀i:Int,0≤i∧i<k→iy n v (.int .i64 i)=some (ad i 0))∧
 (∀(i:Int) (f g:Nat),0≤i∧i<k→gJ g (ad i f)=some (ad i (f+g)))∧
 (∀(i:Int) (f:Nat) (g:H),0≤i∧i<k→kO g (ad i f)=some (ad i f,g))∧
 (∀g:H,(∀id c,h.get id=some c→g.get id=some c)→(∀(i:Int) (f:Nat) (c:AV),0≤i∧i<k→cs[i.toNat* n+f]?=some c→cq false 1 (ad i f) g=some c)∧
   ∀i:Int,0≤i∧i<k→cq true n (ad i 0) g=some (.agg ((cs.drop (i.toNat* n)).take n))):=by
 obtain⟨r,hl,hs⟩:=r
 unfold aW at r
 split at r
 · obtain⟨h1,h2⟩:=xR (xO r);subst h1
   exact⟨fun _ _=>.bot,fun i hi=>by omega,fun i f g hi=>by omega,fun i f g hi=>by omega,fun g _=>⟨fun i f c hi=>by omega,fun i hi=>by omega⟩⟩
 · exact absurd rfl (hs _)
 · rename_i id off len s
   split at r
   · rename_i q
     subst q
     simp only[xN]at r
     obtain⟨d,hd,r⟩:=r
     split at r
     · rename_i hle
       obtain⟨h1,h2⟩:=xR (xO r)
       subst h1
       have bnd:∀i:Int,0≤i∧i<len→i.toNat* s+s≤len* s:=fun i hi=>by
        have:=yg s (show i.toNat+1≤len by omega);rw[yD]at this;omega
       refine⟨fun i f=>.aH id (off+i.toNat* s+f),fun i hi=>by simp [iy,Ng hi],fun i f g _=>by simp [gJ];omega,fun i f g _=>rfl,fun g hg=>⟨fun i f c hi hc=> ?_,fun i hi=> ?_⟩⟩
       · simp only[cq,hg _ _ hd,xX,jj,xY,yI]
         rw[←h2,yG]at hc
         split at hc
         · rw[yy]at hc;rw[xZ];exact hc
         · cases hc
       · have:=bnd i hi
         simp only[cq,hg _ _ hd,xX,jj,if_true,Nat.add_zero]
         rw[if_pos (by omega),←h2,List.drop_take,List.take_take,List.drop_drop,Nat.min_eq_left (by omega)]
     · cases r
   · cases r
 · rename_i t cells off len s
   split at r
   · rename_i q
     subst q
     split at r
     · rename_i hle
       obtain⟨h1,h2⟩:=xR (xO r)
       subst h1
       have bnd:∀i:Int,0≤i∧i<len→i.toNat* s+s≤len* s:=fun i hi=>by
        have:=yg s (show i.toNat+1≤len by omega);rw[yD]at this;omega
       refine⟨fun i f=>.aO cells (off+i.toNat* s+f),fun i hi=>by simp [iy,Ng hi],fun i f g _=>by simp [gJ];omega,fun i f g _=>rfl,fun g hg=>⟨fun i f c hi hc=> ?_,fun i hi=> ?_⟩⟩
       · simp only[cq,jj,xY,yI]
         rw[←h2,yG]at hc
         split at hc
         · rw[yy]at hc;rw[xZ];exact hc
         · cases hc
       · have:=bnd i hi
         simp only[cq,jj,if_true,Nat.add_zero]
         rw[if_pos (by omega),←h2,List.drop_take,List.take_take,List.drop_drop,Nat.min_eq_left (by omega)]
     · cases r
   · cases r
 · cases r
def Af (n:Nat) (h:H) (v:AV) (k:Nat) (cs:List AV):Prop:=cs.length=k* n∧((v=.aT∧k=0)∨∃id,v=.aI id 0 k n∧h.get id=some cs∧h.floor≤id∧0<k)
theorem Af.nil {n:Nat} {h:H}:Af n h .aT 0 []:=⟨by simp,.inl ⟨rfl,rfl⟩⟩
theorem Af.mono {n:Nat} {h g:H} {v:AV} {k:Nat} {cs:List AV} (o:Af n h v k cs) (hf:g.floor=h.floor) (hg:∀i,v.id?=some i→g.get i=h.get i):Af n g v k cs:=by
 obtain⟨l,o⟩:=o
 refine⟨l, ?_⟩
 rcases o with o|⟨id,rfl,h1,h2,h3⟩
 · exact .inl o
 · exact .inr ⟨id,rfl,by rw[hg id rfl];exact h1,by rw[hf];exact h2,h3⟩
theorem Af.sc {n:Nat} {h:H} {v:AV} {k:Nat} {cs:List AV} (o:Af n h v k cs):v.sc=true:=by
 rcases o.2 with ⟨rfl,_⟩|⟨id,rfl,_⟩<;>rfl
theorem Af.lt {n:Nat} {h:H} {v:AV} {k:Nat} {cs:List AV} (o:Af n h v k cs) {i:Nat} (hi:v.id?=some i):h.floor≤i∧i<h.next:=by
 rcases o.2 with ⟨rfl,_⟩|⟨id,rfl,h1,h2⟩
 · cases hi
 · obtain rfl:=xO hi;exact⟨h2.1,h.lt _ _ h1⟩
theorem Af.rd {n:Nat} {h:H} {v:AV} {k:Nat} {cs:List AV} (o:Af n h v k cs):DY n h v k cs:=by
 obtain⟨l,o⟩:=o
 rcases o with ⟨rfl,rfl⟩|⟨id,rfl,h1,h2⟩
 · have:cs=[]:=List.eq_nil_of_length_eq_zero (by omega)
   subst this
   exact⟨rfl,by simp,fun _=>by simp⟩
 · refine⟨?_,l,fun _=>by simp⟩
   simp only[aW,if_true,h1,xX,ym]
   rw[if_pos (by omega),QX,yC (by omega)]
theorem Af.app {n:Nat} {h:H} {v:AV} {k:Nat} {cs:List AV} (o:Af n h v k cs) (hfn:h.floor≤h.next) {z m:Nat} (hm:0<m) (hn:0<n) (bs:List AV) (hb:bs.length=m* n) (hc:AV.aG bs=true) (hr:roomy z (k+m)=true):
 ∃v' h',eT h n z v m bs=some (v',h')∧Af n h' v' (k+m) (cs++bs)∧h'.floor=h.floor∧h.next≤h'.next∧(∀i,v.id?≠some i→i≠h.next→h'.get i=h.get i)∧v'.id?=some h.next:=by
 obtain⟨hl,o⟩:=o
 have hll:(cs++bs).length=(k+m)* n:=by rw[yH,hl,hb,yD]
 rcases o with ⟨rfl,rfl⟩|⟨id,rfl,hg,hf,_⟩
 · have:cs=[]:=List.eq_nil_of_length_eq_zero (by omega)
   subst this
   refine⟨.aI h.next 0 m n,h.alloc bs, ?_,⟨hll,.inr ⟨h.next,by simp,by simp [H.bc],by simp;omega,by omega⟩⟩,by simp,by simp,fun i _ hi=>by rw[H.bc,if_neg hi],rfl⟩
   unfold eT
   rw[if_neg (by omega),if_neg (by simp [hc];omega)]
   rw[ym]at hr
   simp only[hr,if_true]
 · have hmn:0<m* n:=Nat.mul_pos hm hn
   have hnot:¬0+(k+m)* n≤cs.length:=by rw[hl,yD];omega
   refine⟨.aI h.next 0 (k+m) n,(h.del id).alloc (cs++bs), ?_,⟨hll,.inr ⟨h.next,by simp,by simp [H.bc], ?_,by omega⟩⟩,by simp,by simp,fun i h1 h2=> ?_,rfl⟩
   · unfold eT
     rw[if_neg (by omega),if_neg (by simp [hc];omega)]
     simp only[hf,and_self,if_true,hg,xX]
     rw[if_neg hnot,if_pos ⟨by omega,hr⟩]
     simp
   · have:=h.lt id cs hg;simp;omega
   · rw[H.bc,H.kM,if_neg h2,H.fg,if_neg]
     intro e;subst e;exact h1 rfl
theorem Af.push {n:Nat} {h:H} {v:AV} {k:Nat} {cs:List AV} (o:Af n h v k cs) (hfn:h.floor≤h.next) {z m:Nat} (hm:0<m) (hn:0<n) (bs:List AV) (hb:bs.length=m* n) (hc:AV.aG bs=true) (hr:roomy z (k+m)=true):
 ∃v' h',mV (h.alloc bs) n z v (.aI h.next 0 m n)=some (v',h')∧Af n h' v' (k+m) (cs++bs)∧h'.floor=h.floor∧h.next+1≤h'.next∧(∀i,v.id?≠some i→i<h.next→h'.get i=h.get i)∧v'.id?=some (h.next+1):=by
 have o1:Af n (h.alloc bs) v k cs:=o.mono (by simp) fun i q=>by rw[H.bc,if_neg];have:=o.lt q;omega
 obtain⟨v',h',p1,p2,p3,p4,p5,p6⟩:=o1.app (z:=z) (by simp;omega) hm hn bs hb hc hr
 refine⟨v',h', ?_,p2,by rw[p3];simp,by simpa using p4,fun i q1 q2=> ?_,by simpa using p6⟩
 · have src:aW (h.alloc bs) n (.aI h.next 0 m n)=some (m,bs):=by
    simp only[aW,if_true,H.bc,xX,ym]
    rw[if_pos (by omega),QX,yC (by omega)]
   unfold mV;rw[src,xX];exact p1
 · rw[p5 i q1 (by simp;omega),H.bc,if_neg (by omega)]
def IJ (n k:Nat) (cs:List AV):AV:=if k=0 then .aT else .aZ false cs 0 k n
theorem Af.Aj {n:Nat} {h:H} {v:AV} {k:Nat} {l:List Int} {fl m:Nat} {t:Bool} (o:Af n h v k (ints l)) (hf:fl≤h.floor):snap h.get fl (m+2) t v=some (IJ n k (ints l)):=by
 obtain⟨hl,o⟩:=o
 rw[sD]at hl
 rcases o with ⟨rfl,rfl⟩|⟨id,rfl,q,h2,hk⟩
 · rfl
 · unfold snap
   rw[if_neg (by omega),q,xX,if_pos (by rw[sD];omega)]
   rw[QX,yC (by rw[sD];omega),zJ]
   unfold IJ
   rw[if_neg (by omega)];rfl
attribute [go_sem] List.map_cons List.map_nil Bool.and_true Bool.true_and Bool.and_self List.append_nil Option.map_some Option.map_none Bool.and_false Bool.false_and Bool.or_false Bool.or_true Bool.true_or Bool.false_or Bool.or_self cy.aS cy.aM Int.reduceAdd Int.reduceSub Int.reduceMul Int.reduceNeg Int.reduceToNat List.take_succ_cons List.take_zero List.drop_zero List.drop_succ_cons Int.cast_ofNat_Int Int.natCast_one Int.natCast_zero List.length_set
theorem yZ:type_of% @dt∧type_of% @df∧type_of% @Qr∧type_of% @Qe∧type_of% @Qv∧type_of% @Qu∧type_of% @wi∧type_of% @wb∧type_of% @BV∧type_of% @C5∧type_of% @Je∧type_of% @Bt∧type_of% @Ng∧type_of% @yS∧type_of% @yR∧type_of% @zc∧type_of% @yX∧type_of% @H.kE∧type_of% @H.mu∧type_of% @H.ny∧type_of% @H.kN∧type_of% @I4∧type_of% @GG∧type_of% @HW∧type_of% @HV∧type_of% @GL∧type_of% @Db∧type_of% @D4∧type_of% @GB∧type_of% @HL∧type_of% @IA∧type_of% @IB∧type_of% @sO∧type_of% @rK∧type_of% @uS∧type_of% @sZ∧type_of% @Ij∧type_of% @Ii∧type_of% @vN∧type_of% @vO∧type_of% @Fc∧type_of% @ET∧type_of% @HH∧type_of% @HG∧type_of% @HF∧type_of% @Gx∧type_of% @JY∧type_of% @Ig∧type_of% @Ko∧type_of% @Kn∧type_of% @Kl∧type_of% @Kk∧type_of% @Km∧type_of% @Ki∧type_of% @CY∧type_of% @E6∧type_of% @Fa∧type_of% @E8∧type_of% @D3∧type_of% @CZ∧type_of% @BX∧type_of% @E9∧type_of% @AY∧type_of% @Cz∧type_of% @Ir∧type_of% @Cy∧type_of% @CE∧type_of% @CD∧type_of% @Kh∧type_of% @Kg∧type_of% @wR∧type_of% @beq_refl∧type_of% @zH∧type_of% @Kj∧type_of% @JV∧type_of% @I3∧type_of% @I0∧type_of% @IZ∧type_of% @DK∧type_of% @FQ∧type_of% @CV∧type_of% @EB:=⟨@dt, @df, @Qr, @Qe, @Qv, @Qu, @wi, @wb, @BV, @C5, @Je, @Bt, @Ng, @yS, @yR, @zc, @yX, @H.kE, @H.mu, @H.ny, @H.kN, @I4, @GG, @HW, @HV, @GL, @Db, @D4, @GB, @HL, @IA, @IB, @sO, @rK, @uS, @sZ, @Ij, @Ii, @vN, @vO, @Fc, @ET, @HH, @HG, @HF, @Gx, @JY, @Ig, @Ko, @Kn, @Kl, @Kk, @Km, @Ki, @CY, @E6, @Fa, @E8, @D3, @CZ, @BX, @E9, @AY, @Cz, @Ir, @Cy, @CE, @CD, @Kh, @Kg, @wR, @beq_refl, @zH, @Kj, @JV, @I3, @I0, @IZ, @DK, @FQ, @CV, @EB⟩
theorem PY:type_of% @Co∧type_of% @Cg∧type_of% @Cc∧type_of% @EU∧type_of% @EO∧type_of% @Cb∧type_of% @Qw∧type_of% @IE∧type_of% @ID∧type_of% @IX∧type_of% @J8∧type_of% @J6∧type_of% @J7∧type_of% @J9∧type_of% @HJ∧type_of% @JT∧type_of% @JQ∧type_of% @JS∧type_of% @JR∧type_of% @GU∧type_of% @Nk∧type_of% @Nj∧type_of% @PU∧type_of% @PT:=⟨@Co, @Cg, @Cc, @EU, @EO, @Cb, @Qw, @IE, @ID, @IX, @J8, @J6, @J7, @J9, @HJ, @JT, @JQ, @JS, @JR, @GU, @Nk, @Nj, @PU, @PT⟩
theorem HC:type_of% @H.mu∧type_of% @H.kN∧type_of% @EU∧type_of% @Co∧type_of% @H.kE∧type_of% @H.ny∧type_of% @EO∧type_of% @Cc:=⟨@H.mu, @H.kN, @EU, @Co, @H.kE, @H.ny, @EO, @Cc⟩
theorem PZ:type_of% @yS∧type_of% @yR∧type_of% @zc∧type_of% @yX∧type_of% @Cb∧type_of% @Cg:=⟨@yS, @yR, @zc, @yX, @Cb, @Cg⟩
end Ab
set_option maxRecDepth 100000
namespace Ab
open Go
theorem wrap_u32 {n:Nat} (h:n<4294967296):IntKind.wrap .u32 (n:Int)=n:=by
 have e:IntKind.wrap .u32 (n:Int)=(n:Int)%4294967296:=by simp [IntKind.wrap,IntKind.bits,IntKind.signed]
 rw[e];omega
theorem HB (n:Int):IntKind.wrap .u32 n=n%4294967296:=by simp [IntKind.wrap,IntKind.bits,IntKind.signed]
theorem wu {n:Int} (h:0≤n∧n<4294967296):IntKind.wrap .u32 n=n:=by rw[HB];omega
theorem A5 {a b:Nat} (ha:a<4294967296) (hb:b<4294967296):a^^^b<4294967296:=Nat.xor_lt_two_pow (n:=32) ha hb
theorem AD {a b:Nat} (ha:a<4294967296) (hb:b<4294967296):bits .xor .u32 (a:Int) (b:Int)=((a^^^b:Nat):Int):=by
 have h3:=A5 ha hb
 show IntKind.wrap .u32 (((BitVec.ofInt 32 (a:Int)^^^BitVec.ofInt 32 (b:Int)).toNat:Nat):Int)=_
 rw[BitVec.toNat_xor,zM 32 a (by omega),zM 32 b (by omega)]
 exact wrap_u32 h3
theorem Dd {a:Nat} (ha:a<4294967296):bits .and .u32 (a:Int) 1=((a%2:Nat):Int):=by
 show IntKind.wrap .u32 (((BitVec.ofInt 32 (a:Int)&&&BitVec.ofInt 32 ((1:Nat):Int)).toNat:Nat):Int)=_
 rw[BitVec.toNat_and,zM 32 a (by omega),zM 32 1 (by omega),Nat.and_one_is_mod]
 exact wrap_u32 (by omega)
theorem GX {a:Nat} (ha:a<4294967296):rL .shr .u32 (a:Int) 1=some (.int .u32 ((a/2:Nat):Int)):=by
 unfold rL
 rw[if_neg (by omega)]
 have e:(2:Int)^min (Int.toNat 1) IntKind.u32.bits=2:=by decide
 rw[e]
 show some (AV.int .u32 _)=_
 rw[Int.fdiv_eq_ediv_of_nonneg _ (by omega)]
 rfl
theorem ES {h:H} {a:Nat} (ha:a<4294967296):vQ h (.int .u32 (a:Int))=some (.int .u32 ((4294967295-a:Nat):Int),h):=by
 rw[wU]
 have e:(if IntKind.u32.signed then-1 else IntKind.u32.max)=((4294967295:Nat):Int):=by decide
 rw[e,AD (by omega) ha]
 have h2:4294967295^^^a=4294967295-a:=by
  have h1:a<2^32:=by simpa using ha
  have:4294967295-a=2^32-(a+1):=by omega
  rw[this]
  apply Nat.eq_of_testBit_eq
  intro i
  rw[Nat.testBit_two_pow_sub_succ h1,Nat.testBit_xor,show 4294967295=2^32-1 from rfl,Nat.testBit_two_pow_sub_one]
  by_cases hi:i<32
  · simp [hi]
  · have:a.testBit i=false:=Nat.testBit_lt_two_pow (Nat.lt_of_lt_of_le h1 (QO (by omega) (by omega)))
    simp [hi,this]
 rw[h2]
def BK (c:Nat):Nat:=if c%2=1 then(c/2)^^^3988292384 else c/2
def B9:Nat→Nat→Nat
 |0,c=>c
 |n+1,c=>B9 n (BK c)
def Bx (c b:Nat):Nat:=B9 8 (c^^^b)
def AF (s:ByteArray):Nat→Nat→Nat→Nat
 |0,_,c=>c
 |n+1,i,c=>AF s n (i+1) (Bx c (AL s i))
theorem Cs {c:Nat} (h:c<4294967296):BK c<4294967296:=by
 unfold BK;split
 · exact A5 (by omega) (by omega)
 · omega
theorem Dk:∀(n:Nat) {c:Nat},c<4294967296→B9 n c<4294967296
 |0,_,h=>h
 |n+1,_,h=>Dk n (Cs h)
theorem BM {c b:Nat} (hc:c<4294967296) (hb:b<256):Bx c b<4294967296:=Dk 8 (A5 hc (by omega))
theorem Ct (s:ByteArray):∀(n i:Nat) {c:Nat},c<4294967296→AF s n i c<4294967296
 |0,_,_,h=>h
 |n+1,i,_,h=>Ct s n (i+1) (BM h (Bl s i))
theorem Eg (a b d:AV) (h:H):∀(n c k:Nat),k+n=8→c<4294967296→
 ∃e',Lp AP.A [1,5,12,13,22] AP.f103L0 [(1,a),(5,.int .u32 c),(12,b),(13,d),(22,.int .i64 k)] h=some (.exit 2,e',h)∧look e' 1=a∧look e' 5=.int .u32 (B9 n c:Nat)∧look e' 12=b∧look e' 13=d
 | 0, c, k, hk, hc => by
   refine⟨[(1,a),(5,.int .u32 c),(12,b),(13,d),(22,.int .i64 k),(23,.bool false)],wh ?_,rfl,rfl,rfl,rfl⟩
   simp (disch:=omega)only[go_sem,yZ,AP.f103L0]
 | n + 1, c, k, hk, hc => by
   obtain⟨e',r1,r2,r3,r4,r5⟩:=Eg a b d h n (BK c) (k+1) (by omega) (Cs hc)
   have n1:((k+1:Nat):Int)=(k:Int)+1:=by omega
   have x1:=AD (a:=c/2) (b:=3988292384) (by omega) (by omega)
   have a1:=Dd hc
   have s1:=GX hc
   refine⟨e',wj ?_ r1,r2,r3,r4,r5⟩
   rw[n1]
   unfold BK
   by_cases p:c%2=1
   · rw[if_pos p]
     rw[show((3988292384:Nat):Int)=3988292384 from rfl]at x1
     simp (disch:=omega)only[go_sem,yZ,AP.f103L0,a1,s1,x1]
   · rw[if_neg p]
     simp (disch:=omega)only[go_sem,yZ,AP.f103L0,a1,s1]
theorem Eh (s:ByteArray) (hs:s.size<1125899906842624) (h:H):∀(n i c:Nat),i+n=s.size→c<4294967296→
 ∃e',Lp AP.A [1,5,12,13] AP.f103L1 [(1,.str s),(5,.int .u32 c),(12,.int .i64 s.size),(13,.int .i64 i)] h=some (.exit 0,e',h)∧look e' 5=.int .u32 (AF s n i c:Nat)
 | 0, i, c, hi, hc => by
   refine⟨[(1,.str s),(5,.int .u32 c),(12,.int .i64 s.size),(13,.int .i64 i),(14,.bool false)],wh ?_,rfl⟩
   simp (disch:=omega)only[go_sem,yZ,AP.f103L1]
 | n + 1, i, c, hi, hc => by
   have hb:=Bl s i
   obtain⟨e',r1,r2⟩:=Eh s hs h n (i+1) (Bx c (AL s i)) (by omega) (BM hc hb)
   obtain⟨e1,q1,q2,q3,q4,q5⟩:=Eg (.str s) (.int .i64 s.size) (.int .i64 i) h 8 (c^^^AL s i) 0 rfl (A5 hc (by omega))
   have q1':Lp AP.A [1,5,12,13,22] AP.f103L0 [(1,.str s),(5,.int .u32 (c^^^AL s i:Nat)),(12,.int .i64 s.size),(13,.int .i64 i),(22,.int .i64 0)] h=some (.exit 2,e1,h):=q1
   clear q1
   have x1:=AD hc (show AL s i<4294967296 by omega)
   have n1:((i+1:Nat):Int)=(i:Int)+1:=by omega
   refine⟨e',wj ?_ r1,r2⟩
   rw[n1]
   unfold Bx
   simp (disch:=omega)only[go_sem,yZ,AP.f103L1,wu,x1,vp,q1',q2,q3,q4,q5]
def Ds (a:Nat) (s:ByteArray):Nat:=4294967295-AF s s.size 0 (4294967295-a)
theorem FA (a:Nat) (s:ByteArray):Ds a s<4294967296:=by unfold Ds;omega
theorem MM (h:H) (s:ByteArray) (a:Nat) (ha:a<4294967296) (hs:s.size<1125899906842624):aV AP.A 103 [.int .i64 a,.str s] h=some (.int .i64 (Ds a s:Nat),h):=by
 obtain⟨e',r1,r2⟩:=Eh s hs h.eY s.size 0 (4294967295-a) (by omega) (by omega)
 have r1':Lp AP.A [1,5,12,13] AP.f103L1 [(1,.str s),(5,.int .u32 (4294967295-a:Nat)),(12,.int .i64 s.size),(13,.int .i64 0)] h.eY=some (.exit 0,e',h.eY):=r1
 clear r1
 have lt:=Ct s s.size 0 (c:=4294967295-a) (by omega)
 have v1:∀g:H,vQ g (.int .u32 (a:Int))=some (.int .u32 ((4294967295-a:Nat):Int),g):=fun g=>ES ha
 have v2:∀g:H,vQ g (.int .u32 (AF s s.size 0 (4294967295-a):Nat))=some (.int .u32 ((4294967295-AF s s.size 0 (4294967295-a):Nat):Int),g):=fun g=>ES lt
 refine wX (fn:=AP.f103) (h2:=h.eY) (e:=[(4,.int .i64 (Ds a s:Nat))]) rfl rfl rfl ?_ rfl rfl
 unfold Ds
 simp (disch:=omega)only[go_sem,yZ,AP.f103,wu,v1,v2,vp,r1',r2]
def M5 (x:Int):Bool:=decide (0≤x∧x≤4294967295)
theorem Qi (h:H) (x:Int):aV AP.A 105 [.int .i64 x] h=some (.bool (M5 x),h):=by
 refine wX (fn:=AP.f105) (h2:=h.eY) (e:=[(2,.bool (M5 x))]) rfl rfl rfl ?_ rfl rfl
 unfold M5
 by_cases c1:0≤x
 · by_cases c2:x≤4294967295
   · simp (disch:=omega)only[go_sem,yZ,AP.f105]
   · simp (disch:=omega)only[go_sem,yZ,AP.f105]
 · simp (disch:=omega)only[go_sem,yZ,AP.f105]
def A8 (s:ByteArray):Nat:=Ds 0 s
theorem Ip (h:H) (s:ByteArray) (hs:s.size<1125899906842624):aV AP.A 115 [.str s] h=some (.int .i64 (A8 s:Nat),h):=by
 have k1:=MM h.eY s 0 (by omega) hs
 have k1':aV AP.A 103 [.int .i64 0,.str s] h.eY=some (.int .i64 (A8 s:Nat),h.eY):=k1
 refine wX (fn:=AP.f115) (h2:=h.eY) (e:=[(2,.int .i64 (A8 s:Nat))]) rfl rfl rfl ?_ rfl rfl
 simp (disch:=omega)only[go_sem,yZ,AP.f115,k1']
theorem EC (a d:AV) (h:H):∀(n c k:Nat),k+n=8→c<4294967296→
 ∃e',Lp AP.A [0,1,5,6] AP.f111L0 [(0,.int .u32 c),(1,a),(5,d),(6,.int .i64 k)] h=some (.exit 2,e',h)∧look e' 1=a∧look e' 0=.int .u32 (B9 n c:Nat)∧look e' 5=d
 | 0, c, k, hk, hc => by
   refine⟨[(0,.int .u32 c),(1,a),(5,d),(6,.int .i64 k),(20,.bool false)],wh ?_,rfl,rfl,rfl⟩
   simp (disch:=omega)only[go_sem,yZ,AP.f111L0]
 | n + 1, c, k, hk, hc => by
   obtain⟨e',r1,r2,r3,r4⟩:=EC a d h n (BK c) (k+1) (by omega) (Cs hc)
   have n1:((k+1:Nat):Int)=(k:Int)+1:=by omega
   have x1:=AD (a:=c/2) (b:=3988292384) (by omega) (by omega)
   have a1:=Dd hc
   have s1:=GX hc
   refine⟨e',wj ?_ r1,r2,r3,r4⟩
   rw[n1]
   unfold BK
   by_cases p:c%2=1
   · rw[if_pos p]
     rw[show((3988292384:Nat):Int)=3988292384 from rfl]at x1
     simp (disch:=omega)only[go_sem,yZ,AP.f111L0,a1,s1,x1]
   · rw[if_neg p]
     simp (disch:=omega)only[go_sem,yZ,AP.f111L0,a1,s1]
theorem ED (s:ByteArray) (hs:s.size<1125899906842624) (h:H):∀(n i c:Nat),i+n=s.size→c<4294967296→
 ∃e',Lp AP.A [0,1,5] AP.f111L1 [(0,.int .u32 c),(1,.str s),(5,.int .i64 i)] h=some (.exit 0,e',h)∧look e' 0=.int .u32 (AF s n i c:Nat)
 | 0, i, c, hi, hc => by
   refine⟨[(0,.int .u32 c),(1,.str s),(5,.int .i64 i),(10,.bool false)],wh ?_,rfl⟩
   simp (disch:=omega)only[go_sem,yZ,AP.f111L1]
 | n + 1, i, c, hi, hc => by
   have hb:=Bl s i
   obtain⟨e',r1,r2⟩:=ED s hs h n (i+1) (Bx c (AL s i)) (by omega) (BM hc hb)
   obtain⟨e1,q1,q2,q3,q4⟩:=EC (.str s) (.int .i64 i) h 8 (c^^^AL s i) 0 rfl (A5 hc (by omega))
   have q1':Lp AP.A [0,1,5,6] AP.f111L0 [(0,.int .u32 (c^^^AL s i:Nat)),(1,.str s),(5,.int .i64 i),(6,.int .i64 0)] h=some (.exit 2,e1,h):=q1
   clear q1
   have x1:=AD hc (show AL s i<4294967296 by omega)
   have n1:((i+1:Nat):Int)=(i:Int)+1:=by omega
   refine⟨e',wj ?_ r1,r2⟩
   rw[n1]
   unfold Bx
   simp (disch:=omega)only[go_sem,yZ,AP.f111L1,wu,x1,vp,q1',q2,q3,q4]
theorem MW (h:H) (s:ByteArray) (c:Nat) (hc:c<4294967296) (hs:s.size<1125899906842624):aV AP.A 111 [.int .u32 c,.str s] h=some (.int .u32 (AF s s.size 0 c:Nat),h):=by
 obtain⟨e',r1,r2⟩:=ED s hs h.eY s.size 0 c (by omega) hc
 have r1':Lp AP.A [0,1,5] AP.f111L1 [(0,.int .u32 c),(1,.str s),(5,.int .i64 0)] h.eY=some (.exit 0,e',h.eY):=r1
 clear r1
 refine wX (fn:=AP.f111) (h2:=h.eY) (e:=[(4,.int .u32 (AF s s.size 0 c:Nat))]) rfl rfl rfl ?_ rfl rfl
 simp (disch:=omega)only[go_sem,yZ,AP.f111,vp,r1',r2]
theorem HP (h:H) (s:ByteArray) (hs:s.size<1125899906842624):aV AP.A 101 [.str s] h=some (.int .i64 (A8 s:Nat),h):=by
 have k1:=MW h.eY s 4294967295 (by omega) hs
 have k1':aV AP.A 111 [.int .u32 4294967295,.str s] h.eY=some (.int .u32 (AF s s.size 0 4294967295:Nat),h.eY):=k1
 have lt:=Ct s s.size 0 (c:=4294967295) (by omega)
 have v2:∀g:H,vQ g (.int .u32 (AF s s.size 0 4294967295:Nat))=some (.int .u32 (A8 s:Nat),g):=fun g=>ES lt
 have lt2:=FA 0 s
 unfold A8 at v2 ⊢
 refine wX (fn:=AP.f101) (h2:=h.eY) (e:=[(2,.int .i64 (Ds 0 s:Nat))]) rfl rfl rfl ?_ rfl rfl
 simp (disch:=omega)only[go_sem,yZ,AP.f101,k1',v2]
theorem Nh {k:IntKind} {i:Int} {n:Nat} (h:0≤i∧i<n):dH (.int k i) n=some i.toNat:=by simp [dH,pX,h]
def okB (b:Nat):Bool:=decide (97≤b∧b≤122∨48≤b∧b≤57∨b=46∨b=45∨b=95)
def Ah (s:ByteArray):Nat→Nat→Bool
 |0,_=>false
 |n+1,i=>decide (i=AL s n)||Ah s n i
def JJ:ByteArray:=⟨#[97,98,99,100,101,102,103,104,105,106,107,108,109,110,111,112,113,114,115,116,117,118,119,120,121,122,48,49,50,51,52,53,54,55,56,57,46,45,95]⟩
def bT (P:Nat→Bool):List AV:=pQ 256 fun i=>.bool (P i)
theorem BI (P:Nat→Bool):(bT P).length=256:=by simp [bT]
theorem Kq (P:Nat→Bool) {i:Nat} (h:i<256):(bT P)[i]?=some (.bool (P i)):=ik h
theorem Ks (s:ByteArray) (n:Nat):(bT (Ah s n)).set (AL s n) (.bool true)=bT (Ah s (n+1)):=by
 unfold bT
 rw[wI (Bl s n)]
 congr 1
 funext i
 have e:Ah s (n+1) i=(decide (i=AL s n)||Ah s n i):=rfl
 rw[e]
 unfold w9
 by_cases h:i=AL s n
 · simp [h]
 · simp [h]
theorem Nl:bT (Ah JJ 39)=bT okB:=by
 unfold bT pQ
 refine List.map_congr_left fun i hi=> ?_
 have hi':i<256:=List.mem_range.1 hi
 have:∀i,i<256→Ah JJ 39 i=okB i:=by decide+kernel
 rw[this i hi']
theorem Dx (g:Nat→Option (List AV)) (fl n:Nat) (t:Bool):∀l:List Bool,gX (snap g fl (n+1) t) (l.map .bool)=some (l.map .bool)
 |[]=>rfl
 | b :: l => by
   have:=Dx g fl n t l
   simp only[QY,gX,this];rfl
theorem JF (g:Nat→Option (List AV)) (fl n:Nat) (t:Bool) (P:Nat→Bool):gX (snap g fl (n+1) t) (bT P)=some (bT P):=by
 have e:bT P=((List.range 256).map P).map .bool:=by unfold bT pQ;rw[List.map_map];rfl
 rw[e];exact Dx g fl n t _
theorem HM (e:Env):bh e (.alloc [.bool false,.bool false,.bool false,.bool false,.bool false,.bool false,.bool false,.bool false,.bool false,.bool false,.bool false,.bool false,.bool false,.bool false,.bool false,.bool false,.bool false,.bool false,.bool false,.bool false,.bool false,.bool false,.bool false,.bool false,.bool false,.bool false,.bool false,.bool false,.bool false,.bool false,.bool false,.bool false,.bool false,.bool false,.bool false,.bool false,.bool false,.bool false,.bool false,.bool false,.bool false,.bool false,.bool false,.bool false,.bool false,.bool false,.bool false,.bool false,.bool false,.bool false,.bool false,.bool false,.bool false,.bool false,.bool false,.bool false,.bool false,.bool false,.bool false,.bool false,.bool false,.bool false,.bool false,.bool false,.bool false,.bool false,.bool false,.bool false,.bool false,.bool false,.bool false,.bool false,.bool false,.bool false,.bool false,.bool false,.bool false,.bool false,.bool false,.bool false,.bool false,.bool false,.bool false,.bool false,.bool false,.bool false,.bool false,.bool false,.bool false,.bool false,.bool false,.bool false,.bool false,.bool false,.bool false,.bool false,.bool false,.bool false,.bool false,.bool false,.bool false,.bool false,.bool false,.bool false,.bool false,.bool false,.bool false,.bool false,.bool false,.bool false,.bool false,.bool false,.bool false,.bool false,.bool false,.bool false,.bool false,.bool false,.bool false,.bool false,.bool false,.bool false,.bool false,.bool false,.bool false,.bool false,.bool false,.bool false,.bool false,.bool false,.bool false,.bool false,.bool false,.bool false,.bool false,.bool false,.bool false,.bool false,.bool false,.bool false,.bool false,.bool false,.bool false,.bool false,.bool false,.bool false,.bool false,.bool false,.bool false,.bool false,.bool false,.bool false,.bool false,.bool false,.bool false,.bool false,.bool false,.bool false,.bool false,.bool false,.bool false,.bool false,.bool false,.bool false,.bool false,.bool false,.bool false,.bool false,.bool false,.bool false,.bool false,.bool false,.bool false,.bool false,.bool false,.bool false,.bool false,.bool false,.bool false,.bool false,.bool false,.bool false,.bool false,.bool false,.bool false,.bool false,.bool false,.bool false,.bool false,.bool false,.bool false,.bool false,.bool false,.bool false,.bool false,.bool false,.bool false,.bool false,.bool false,.bool false,.bool false,.bool false,.bool false,.bool false,.bool false,.bool false,.bool false,.bool false,.bool false,.bool false,.bool false,.bool false,.bool false,.bool false,.bool false,.bool false,.bool false,.bool false,.bool false,.bool false,.bool false,.bool false,.bool false,.bool false,.bool false,.bool false,.bool false,.bool false,.bool false,.bool false,.bool false,.bool false,.bool false,.bool false,.bool false,.bool false,.bool false,.bool false,.bool false,.bool false,.bool false,.bool false,.bool false,.bool false,.bool false,.bool false,.bool false,.bool false,.bool false,.bool false,.bool false,.bool false,.bool false,.bool false,.bool false,.bool false])=some (bT fun _=>false,fun i=>.aH i 0):=rfl
theorem GP (s:ByteArray) (hs:s.size<100000) (h7:∀i,i<s.size→AL s i<128) (id:Nat):∀(m n:Nat) (h:H),n+m=s.size→h.get id=some (bT (Ah s n))→h.floor≤id→
 ∃e' h',Lp AP.A [0,2,4] AP.f127L0 [(0,.str s),(2,.aH id 0),(4,.int .i64 n)] h=some (.exit 0,e',h')∧look e' 2=.aH id 0∧h'.get id=some (bT (Ah s s.size))∧h'.floor=h.floor
 | 0, n, h, hn, hg, hf => by
   obtain rfl:n=s.size:=by omega
   refine⟨[(0,.str s),(2,.aH id 0),(4,.int .i64 s.size),(9,.bool false)],h,wh ?_,rfl,hg,rfl⟩
   simp (disch:=omega)only[go_sem,yZ,AP.f127L0]
 | m + 1, n, h, hn, hg, hf => by
   have g2:(h.set id (bT (Ah s (n+1)))).get id=some (bT (Ah s (n+1))):=by rw[zc rfl,hg];rfl
   obtain⟨e',h',r1,r2,r3,r4⟩:=GP s hs h7 id m (n+1) _ (by omega) g2 (by simpa using hf)
   have n1:((n+1:Nat):Int)=(n:Int)+1:=by omega
   have hb:=Bl s n
   have hb7:=h7 n (by omega)
   have ia:dH (.int .u8 (AL s n:Nat)) 256=some (AL s n):=by rw[Nh (by omega)];rfl
   have st:wZ h id (AL s n) 1 [.bool true] (some (bT (Ah s n)))=some (h.set id (bT (Ah s (n+1)))):=by rw[xG hf (by rw[BI];exact hb) rfl,Ks]
   refine⟨e',h',wj ?_ r1,r2,r3,by rw[r4];simp⟩
   rw[n1]
   generalize bT (Ah s n)=T at *
   generalize bT (Ah s (n+1))=T2 at *
   simp (disch:=omega)only[go_sem,yZ,AP.f127L0,ia,hg,st]
theorem zD {h:H} {id n:Nat} {v cs:List AV} (hf:h.floor≤id) (hv:v.length=n) (hc:cs.length=n) (hs:AV.aG v=true):wZ h id 0 n v (some cs)=some (h.set id v):=by
 rw[I4]
 have e:setFrom cs 0 v=v:=by
  have:=AO cs v [] [] (by omega)
  simpa using this
 simp [hf,hv,hc,hs,e,zL]
theorem JU (P:Nat→Bool):AV.aG (bT P)=true:=by
 have e:bT P=((List.range 256).map P).map .bool:=by unfold bT pQ;rw[List.map_map];rfl
 rw[e]
 generalize (List.range 256).map P=l
 induction l with
 |nil=>rfl
 |cons b l ih=>simp [ih]
theorem MR (P:Nat→Bool):jj true 256 (bT P) 0=some (.agg (bT P)):=by
 simp only[jj,if_true]
 rw[if_pos (by rw[BI];omega),QX,yC (by rw[BI];omega)]
theorem JG (h:H) (s:ByteArray) (hs:s.size<100000) (h7:∀i,i<s.size→AL s i<128):aV AP.A 127 [.str s] h=some (.cf [.agg (bT (Ah s s.size)),.bool true],h):=by
 obtain⟨h1,eh1⟩:∃g,g=h.eY.alloc (bT fun _=>false):=⟨_,rfl⟩
 have g1:h1.get h.next=some (bT (Ah s 0)):=by rw[eh1,yS (by simp)];rfl
 obtain⟨e',h',r1,r2,r3,r4⟩:=GP s hs h7 h.next s.size 0 h1 (by omega) g1 (by rw[eh1];simp)
 have r1':Lp AP.A [0,2,4] AP.f127L0 [(0,.str s),(2,.aH h.next 0),(4,.int .i64 0)] h1=some (.exit 0,e',h'):=r1
 clear r1
 obtain⟨h2,eh2⟩:∃g,g=h'.set h.next (bT (Ah s s.size)):=⟨_,rfl⟩
 have st:wZ h' h.next 0 256 (bT (Ah s s.size)) (some (bT (Ah s s.size)))=some h2:=by
  rw[zD (by rw[r4,eh1];simp) (BI _) (BI _) (JU _),eh2]
 have g2:h2.get h.next=some (bT (Ah s s.size)):=by rw[eh2,zc rfl,r3];rfl
 have hn:h.eY.next=h.next:=rfl
 have rd:=MR (Ah s s.size)
 refine wX (fn:=AP.f127) (h2:=h2) (e:=[(2,.aH h.next 0),(3,.bool true)]) (vs:=[.agg (bT (Ah s s.size)),.bool true]) rfl rfl rfl ?_ ?_ ?_
 · generalize bT (Ah s s.size)=T at *
   simp (disch:=omega)only[go_sem,AP.f127,HM,hn,←eh1,vp,r1',r2,r3,rd,st]
 · simp only[AP.f127,di,pG,pf,ue,g2,v7,rd,nE,ne_eq,Nat.reduceEqDiff,not_false_eq_true]
   rfl
 · show(gX (snap h2.get h.next 15 true) [.agg (bT (Ah s s.size)),.bool true]).bind _=_
   have m1:snap h2.get h.next 15 true (.agg (bT (Ah s s.size)))=some (.agg (bT (Ah s s.size))):=by
    unfold snap;rw[JF];rfl
   simp only[gX,m1];rfl
theorem JZ (h:H) (id b:Nat) (P:Nat→Bool) (hg:h.get id=some (bT P)) (hb:b<256):aV AP.A 132 [.aH id 0,.int .u8 b] h=some (.bool (P b),h):=by
 have ia:dH (.int .u8 b) 256=some b:=by rw[Nh (by omega)];congr 1
 have g:=Kq P hb
 refine wF (fn:=AP.f132) (h2:=h) (e:=[(4,.bool (P b))]) (vs:=[.bool (P b)]) rfl rfl rfl ?_ rfl
 generalize bT P=T at *
 simp (disch:=omega)only[go_sem,yZ,AP.f132,ia,hg,g]
theorem HK {s:ByteArray} {n:Nat} (hn:n≤s.size):pY (.str s) none (some (.int .i64 n))=some (.str (s.extract 0 n)):=Jj hn
theorem Jk {s:ByteArray} {n:Nat} (hn:n≤s.size):pY (.str s) (some (.int .i64 n)) none=some (.str (s.extract n s.size)):=by
 have:mC (.int .i64 n) s.size=some n:=FO hn
 simp [pY,aF,this]
theorem C4 {s:ByteArray} {a b i:Nat} (hb:b≤s.size) (hi:a+i<b):AL (s.extract a b) i=AL s (a+i):=by
 have e:(s.extract a b)[i]?=s[a+i]?:=by
  show(s.extract a b).data[i]?=s.data[a+i]?
  rw[ByteArray.data_extract,Array.getElem?_extract]
  have:s.data.size=s.size:=rfl
  rw[if_pos (by omega)]
 unfold AL;rw[e]
theorem Cp {s:ByteArray} {a b:Nat} (hb:b≤s.size):(s.extract a b).size=b-a:=by simp [ByteArray.size_extract];omega
theorem GK (s:ByteArray):s.extract 0 s.size=s:=by
 apply ByteArray.ext
 rw[ByteArray.data_extract]
 exact Array.extract_size
theorem Js (s:ByteArray) {n m:Nat} (hm:m≤n):(s.extract 0 n).extract 0 m=s.extract 0 m:=by
 apply ByteArray.ext
 rw[ByteArray.data_extract,ByteArray.data_extract,ByteArray.data_extract,Array.extract_extract]
 simp [hm]
theorem DG (id : Nat) (P : Nat → Bool) (h : H) (hg : h.get id = some (bT P)) : ∀ (n : Nat) (s : ByteArray), s.size = n → n < 100000 →
 ∃e' m,Lp AP.A [0,1] AP.f129L0 [(0,.str s),(1,.aH id 0)] h=some (.exit 0,e',h)∧look e' 0=.str (s.extract 0 m)∧m≤s.size∧(∀i,m≤i→i<s.size→P (AL s i)=true)∧(0<m→P (AL s (m-1))=false)
 | 0, s, hs, hn => by
   refine⟨[(0,.str s),(1,.aH id 0),(7,.bool false)],0,wh ?_, ?_,by omega,fun i h1 h2=>by omega,fun q=>by omega⟩
   · simp (disch:=omega)only[go_sem,yZ,AP.f129L0]
   · show AV.str s=_
     congr 1
     have:=GK s
     rw[hs]at this
     exact this.symm
 | n + 1, s, hs, hn => by
   have hb:=Bl s n
   have k1:=JZ h id (AL s n) P hg hb
   have n1:(s.size:Int)-1=(n:Int):=by omega
   have sl:=HK (s:=s) (n:=n) (by omega)
   by_cases c:P (AL s n)=true
   · rw [c] at k1
     obtain⟨e',m,r1,r2,r3,r4,r5⟩:=DG id P h hg n (s.extract 0 n) (by rw[Cp (by omega)];omega) (by omega)
     rw[Cp (by omega)]at r3 r4
     refine⟨e',m,wj ?_ r1, ?_,by omega,fun i h1 h2=> ?_,fun q=> ?_⟩
     · simp (disch:=omega)only[go_sem,yZ,AP.f129L0,n1,k1,sl]
     · rw[r2];congr 1;exact Js s r3
     · by_cases hi:i=n
       · rw[hi];exact c
       · have:=r4 i h1 (by omega)
         rwa [C4 (by omega) (by omega),ym]at this
     · have:=r5 q
       rwa [C4 (by omega) (by omega),ym]at this
   · have c':P (AL s n)=false:=by simpa using c
     rw[c']at k1
     refine⟨[(0,.str s),(1,.aH id 0),(15,.bool true)],s.size,wh ?_, ?_,ya _,fun i h1 h2=>by omega,fun q=>by rw[hs];exact c'⟩
     · simp (disch:=omega)only[go_sem,yZ,AP.f129L0,n1,k1]
     · show AV.str s=_
       congr 1
       exact(GK s).symm
theorem Lx (s:ByteArray) {n:Nat} (h:s.size=n+1):(s.extract 1 s.size).size=n:=by rw[Cp (ya _)];omega
theorem Ei (id : Nat) (P : Nat → Bool) (h : H) (hg : h.get id = some (bT P)) : ∀ (n : Nat) (s : ByteArray), s.size = n → n < 100000 → (0 < n → P (AL s (n - 1)) = false) →
 ∃e' r,Lp AP.A [0,1] AP.f128L0 [(0,.str s),(1,.aH id 0)] h=some (.exit 0,e',h)∧look e' 0=.str r∧(r.size=0↔n=0)
 | 0, s, hs, hn, hp => by
   refine⟨[(0,.str s),(1,.aH id 0),(7,.bool false)],s,wh ?_,rfl,by omega⟩
   simp (disch:=omega)only[go_sem,yZ,AP.f128L0]
 | n + 1, s, hs, hn, hp => by
   have hb:=Bl s 0
   have k1:=JZ h id (AL s 0) P hg hb
   have sl:pY (.str s) (some (.int .i64 1)) none=some (.str (s.extract 1 s.size)):=Jk (s:=s) (n:=1) (by omega)
   have ix:oD (.str s) (.int .i64 0)=some (.int .u8 (AL s 0:Nat)):=C5 (by omega)
   by_cases c:P (AL s 0)=true
   · rw[c]at k1
     have hn0:n≠0:=fun e=>by subst e;have:=hp (by omega);simp only[ym,Nat.sub_self]at this;rw[c]at this;cases this
     obtain⟨e',r,r1,r2,r3⟩:=Ei id P h hg n (s.extract 1 s.size) (Lx s hs) (by omega) (fun q=>by
      rw[C4 (ya _) (by omega),show 1+(n-1)=n+1-1 by omega];exact hp (by omega))
     refine⟨e',r,wj ?_ r1,r2,by omega⟩
     clear hp
     simp (disch:=omega)only[go_sem,dt,df,BV,AP.f128L0,k1,sl,ix,QN,QP]
   · have c':P (AL s 0)=false:=by simpa using c
     rw[c']at k1
     refine⟨[(0,.str s),(1,.aH id 0),(12,.bool true)],s,wh ?_,rfl,by omega⟩
     clear hp
     simp (disch:=omega)only[go_sem,dt,df,BV,AP.f128L0,k1,sl,ix,QN,QP]
def BW (s:ByteArray):Bool:=(List.range s.size).all fun i=>okB (AL s i)
theorem DB:JJ.size=39:=rfl
theorem Kr:bT (Ah JJ JJ.size)=bT okB:=Nl
theorem Qo (h:H) (s:ByteArray) (id:Nat) (P:Nat→Bool) (hg:h.get id=some (bT P)) (hs:s.size<100000) (hp:0<s.size→P (AL s (s.size-1))=false):∃r,aV AP.A 128 [.str s,.aH id 0] h=some (.str r,h)∧(r.size=0↔s.size=0):=by
 obtain⟨e',r,r1,r2,r3⟩:=Ei id P h hg s.size s rfl hs hp
 refine⟨r,wF (fn:=AP.f128) (h2:=h) (e:=[(4,.str r)]) (vs:=[.str r]) rfl rfl rfl ?_ rfl,r3⟩
 clear hp
 simp only[go_sem,AP.f128,vp,r1,r2]
theorem Qp (h:H) (s:ByteArray) (id:Nat) (P:Nat→Bool) (hg:h.get id=some (bT P)) (hs:s.size<100000):
 ∃m,aV AP.A 129 [.str s,.aH id 0] h=some (.str (s.extract 0 m),h)∧m≤s.size∧(∀i,m≤i→i<s.size→P (AL s i)=true)∧(0<m→P (AL s (m-1))=false):=by
 obtain⟨e',m,r1,r2,r3,r4,r5⟩:=DG id P h hg s.size s rfl hs
 refine⟨m,wF (fn:=AP.f129) (h2:=h) (e:=[(4,.str (s.extract 0 m))]) (vs:=[.str (s.extract 0 m)]) rfl rfl rfl ?_ rfl,r3,r4,r5⟩
 simp only[go_sem,AP.f129,vp,r1,r2]
theorem Gs {a b:ByteArray} (h:a≠b):(a.data.toList==b.data.toList)=false:=by
 rw[beq_eq_false_iff_ne]
 intro e
 apply h
 apply ByteArray.ext
 exact Array.toList_inj.1 e
theorem DN (a:ByteArray):(a.data.toList==a.data.toList)=true:=by simp
theorem MV (h : H) (s : ByteArray) (h0 : 0 < s.size) (hs : s.size < 100000) : ∃ r, aV AP.A 124 [.str s, .str JJ] h = some (.str r, h) ∧ (r.size = 0 ↔ BW s = true) := by
 have m1:=JG h.eY JJ (by rw[DB];omega) (by rw[DB];decide+kernel)
 rw[Kr]at m1
 obtain⟨h1,eh1⟩:∃g,g=h.eY.alloc (bT fun _=>false):=⟨_,rfl⟩
 have hn:h.eY.next=h.next:=rfl
 have g1:h1.get h.next=some (bT fun _=>false):=by rw[eh1,yS (by simp)]
 obtain⟨h2,eh2⟩:∃g,g=h1.set h.next (bT okB):=⟨_,rfl⟩
 have st:wZ h1 h.next 0 256 (bT okB) (some (bT fun _=>false))=some h2:=by
  rw[zD (by rw[eh1];simp) (BI _) (BI _) (JU _),eh2]
 have g2:h2.get h.next=some (bT okB):=by rw[eh2,zc rfl,g1];rfl
 obtain⟨m,a1,a2,a3,a4⟩:=Qp h2 s h.next okB g2 hs
 have sz:=Cp (s:=s) (a:=0) (b:=m) a2
 obtain⟨r,b1,b2⟩:=Qo h2 (s.extract 0 m) h.next okB g2 (by omega) (fun q=>by
  rw[sz,Nat.sub_zero,C4 a2 (by omega),ym];exact a4 (by omega))
 refine⟨r, ?_, ?_⟩
 · have e1:bH .eql (.str s) (.str ⟨#[]⟩)=some (.bool false):=by
    rw[zS,Gs];intro e;rw[e]at h0;exact absurd h0 (by decide)
   have e2:bH .eql (.str JJ) (.str ⟨#[]⟩)=some (.bool false):=by
    rw[zS,Gs];intro e;have:=DB;rw[e]at this;exact absurd this (by decide)
   have l2:j6 true (.str JJ)=some (.int .i64 39):=rfl
   refine wX (fn:=AP.f124) (h2:=h2) (e:=[(4,.str r)]) rfl rfl rfl ?_ rfl rfl
   clear a3 a4
   generalize bT okB=T at *
   generalize hT:(bT fun _=>false)=T0 at *
   have ba:∀e:Env,bh e (.alloc [.bool false,.bool false,.bool false,.bool false,.bool false,.bool false,.bool false,.bool false,.bool false,.bool false,.bool false,.bool false,.bool false,.bool false,.bool false,.bool false,.bool false,.bool false,.bool false,.bool false,.bool false,.bool false,.bool false,.bool false,.bool false,.bool false,.bool false,.bool false,.bool false,.bool false,.bool false,.bool false,.bool false,.bool false,.bool false,.bool false,.bool false,.bool false,.bool false,.bool false,.bool false,.bool false,.bool false,.bool false,.bool false,.bool false,.bool false,.bool false,.bool false,.bool false,.bool false,.bool false,.bool false,.bool false,.bool false,.bool false,.bool false,.bool false,.bool false,.bool false,.bool false,.bool false,.bool false,.bool false,.bool false,.bool false,.bool false,.bool false,.bool false,.bool false,.bool false,.bool false,.bool false,.bool false,.bool false,.bool false,.bool false,.bool false,.bool false,.bool false,.bool false,.bool false,.bool false,.bool false,.bool false,.bool false,.bool false,.bool false,.bool false,.bool false,.bool false,.bool false,.bool false,.bool false,.bool false,.bool false,.bool false,.bool false,.bool false,.bool false,.bool false,.bool false,.bool false,.bool false,.bool false,.bool false,.bool false,.bool false,.bool false,.bool false,.bool false,.bool false,.bool false,.bool false,.bool false,.bool false,.bool false,.bool false,.bool false,.bool false,.bool false,.bool false,.bool false,.bool false,.bool false,.bool false,.bool false,.bool false,.bool false,.bool false,.bool false,.bool false,.bool false,.bool false,.bool false,.bool false,.bool false,.bool false,.bool false,.bool false,.bool false,.bool false,.bool false,.bool false,.bool false,.bool false,.bool false,.bool false,.bool false,.bool false,.bool false,.bool false,.bool false,.bool false,.bool false,.bool false,.bool false,.bool false,.bool false,.bool false,.bool false,.bool false,.bool false,.bool false,.bool false,.bool false,.bool false,.bool false,.bool false,.bool false,.bool false,.bool false,.bool false,.bool false,.bool false,.bool false,.bool false,.bool false,.bool false,.bool false,.bool false,.bool false,.bool false,.bool false,.bool false,.bool false,.bool false,.bool false,.bool false,.bool false,.bool false,.bool false,.bool false,.bool false,.bool false,.bool false,.bool false,.bool false,.bool false,.bool false,.bool false,.bool false,.bool false,.bool false,.bool false,.bool false,.bool false,.bool false,.bool false,.bool false,.bool false,.bool false,.bool false,.bool false,.bool false,.bool false,.bool false,.bool false,.bool false,.bool false,.bool false,.bool false,.bool false,.bool false,.bool false,.bool false,.bool false,.bool false,.bool false,.bool false,.bool false,.bool false,.bool false,.bool false,.bool false,.bool false,.bool false,.bool false,.bool false,.bool false,.bool false,.bool false,.bool false,.bool false,.bool false,.bool false,.bool false,.bool false,.bool false,.bool false,.bool false,.bool false,.bool false,.bool false,.bool false,.bool false])=some (T0,fun i=>.aH i 0):=fun e=>by rw[HM,hT]
   simp (disch:=omega)only[go_sem,AP.f124,ba,hn,←eh1,e1,e2,l2,Qe,m1,g1,st,a1,b1]
 · rw [b2, sz]
   unfold BW
   rw[List.all_eq_true]
   constructor
   · intro q i hi
     exact a3 i (by omega) (List.mem_range.1 hi)
   · intro q
     by_cases hm:m=0
     · omega
     · have:=a4 (by omega)
       rw[q (m-1) (List.mem_range.2 (by omega))]at this
       cases this
def HR:ByteArray:=⟨#[46]⟩
def Fi:ByteArray:=⟨#[46,46]⟩
def AX (s:ByteArray):Bool:=decide (1≤s.size)&&(decide (s.size≤8)&&(BW s&&(!(s.data.toList==HR.data.toList)&& !(s.data.toList==Fi.data.toList))))
theorem MO (h : H) (s : ByteArray) (hs : s.size < 1125899906842624) : aV AP.A 121 [.str s] h = some (.bool (AX s), h) := by
 refine wX (fn:=AP.f121) (h2:=h.eY) (e:=[(2,.bool (AX s))]) rfl rfl rfl ?_ rfl rfl
 unfold AX
 by_cases c1:1≤s.size
 · by_cases c2:s.size≤8
   · obtain⟨r,t1,t2⟩:=MV h.eY s (by omega) (by omega)
     have t1':aV AP.A 124 [.str s,.str ⟨#[97,98,99,100,101,102,103,104,105,106,107,108,109,110,111,112,113,114,115,116,117,118,119,120,121,122,48,49,50,51,52,53,54,55,56,57,46,45,95]⟩] h.eY=some (.str r,h.eY):=t1
     have e1:bH .eql (.str r) (.str ⟨#[]⟩)=some (.bool (BW s)):=by
      rw[zS]
      by_cases q:BW s=true
      · rw[q]
        have:r=⟨#[]⟩:=by
         apply ByteArray.ext
         exact Array.size_eq_zero_iff.1 (t2.2 q)
        rw[this,DN]
      · have q':BW s=false:=by simpa using q
        rw[q',Gs]
        intro e
        rw[e]at t2
        exact q (t2.1 rfl)
     have e2:bH .neq (.str s) (.str ⟨#[46]⟩)=some (.bool (!(s.data.toList==HR.data.toList))):=Bf _ _
     have e3:bH .neq (.str s) (.str ⟨#[46,46]⟩)=some (.bool (!(s.data.toList==Fi.data.toList))):=Bf _ _
     clear t1 t2
     generalize (!(s.data.toList==HR.data.toList))=B2 at *
     generalize (!(s.data.toList==Fi.data.toList))=B3 at *
     generalize BW s=B1 at *
     cases B1<;>cases B2<;>cases B3<;>simp (disch:=omega)only[go_sem,yZ,AP.f121,t1',e1,e2,e3]
   · simp (disch:=omega)only[go_sem,yZ,AP.f121]
 · simp (disch:=omega)only[go_sem,yZ,AP.f121]
theorem GR (b:Nat):okB b=true↔97≤b∧b≤122∨48≤b∧b≤57∨b=46∨b=45∨b=95:=by simp [okB]
def Ak (s:ByteArray):Nat→Nat→Bool
 |0,_=>true
 |n+1,i=>okB (AL s i)&&Ak s n (i+1)
theorem C9 (s:ByteArray):∀n i,Ak s n i=(List.range n).all fun j=>okB (AL s (i+j))
 |0,_=>rfl
 | n + 1, i => by
   rw[Ak,C9 s n (i+1),List.range_succ_eq_map,List.all_cons,List.all_map]
   simp only[Nat.add_zero]
   congr 1
   refine Q5 (fun f=>(List.range n).all f) ?_
   funext j
   simp only[Function.comp,Nat.succ_eq_add_one]
   rw[show i+(j+1)=i+1+j by omega]
theorem GQ (s : ByteArray) (hs : s.size < 100000) (h : H) : ∀ (n i : Nat), i + n = s.size →
 (∃e',Lp AP.A [0,3] AP.f173L0 [(0,.str s),(3,.int .i64 i)] h=some (.exit 0,e',h)∧Ak s n i=true)∨
 (∃e',Lp AP.A [0,3] AP.f173L0 [(0,.str s),(3,.int .i64 i)] h=some (.ret,e',h)∧look e' 2=.bool false∧Ak s n i=false)
 | 0, i, hi => by
   left
   refine⟨[(0,.str s),(3,.int .i64 i),(24,.bool false)],wh ?_,rfl⟩
   simp (disch:=omega)only[go_sem,yZ,AP.f173L0]
 | n + 1, i, hi => by
   have hb:=Bl s i
   have n1:((i+1:Nat):Int)=(i:Int)+1:=by omega
   have ix:oD (.str s) (.int .i64 i)=some (.int .u8 (AL s i:Nat)):=by rw[C5 (by omega),Bt]
   by_cases c:okB (AL s i)=true
   · have e:Ak s (n+1) i=Ak s n (i+1):=by simp [Ak,c]
     rw[e]
     have ih:=GQ s hs h n (i+1) (by omega)
     rw[GR]at c
     generalize AL s i=b at *
     have step:aP (aV AP.A) bL AP.f173L0 (aC [(0,.str s),(3,.int .i64 i)] [0,3]) h=some (.normal,[(0,.str s),(3,.int .i64 ((i:Int)+1))],h):=by
      clear ih e
      rcases c with c|c|c|c|c
      · simp (disch:=omega)only[go_sem,yZ,AP.f173L0,ix]
      · simp (disch:=omega)only[go_sem,yZ,AP.f173L0,ix]
      · simp (disch:=omega)only[go_sem,yZ,AP.f173L0,ix]
      · simp (disch:=omega)only[go_sem,yZ,AP.f173L0,ix]
      · simp (disch:=omega)only[go_sem,yZ,AP.f173L0,ix]
     rw[n1]at ih
     rcases ih with ⟨e',r1,r2⟩|⟨e',r1,r2,r3⟩
     · exact .inl ⟨e',wj step r1,r2⟩
     · exact .inr ⟨e',wj step r1,r2,r3⟩
   · right
     refine⟨[(2,.bool false)],wM ?_,rfl,by simp [Ak,c]⟩
     rw[GR]at c
     generalize AL s i=b at *
     have c1:¬(97≤b∧b≤122):=by omega
     have c2:¬(48≤b∧b≤57):=by omega
     have c3:¬b=46:=by omega
     have c4:¬b=45:=by omega
     have c5:¬b=95:=by omega
     clear c
     by_cases d1:b<97
     · by_cases d2:b<48
       · clear c1 c2;simp (disch:=omega)only[go_sem,yZ,AP.f173L0,ix]
       · have:57<b:=by omega
         clear c1 c2;simp (disch:=omega)only[go_sem,yZ,AP.f173L0,ix]
     · have:122<b:=by omega
       have d2:¬b<48:=by omega
       clear c1 c2;simp (disch:=omega)only[go_sem,yZ,AP.f173L0,ix]
theorem JI (h : H) (s : ByteArray) (hs : s.size < 1125899906842624) : aV AP.A 173 [.str s] h = some (.bool (AX s), h) := by
 have e2:bH .eql (.str s) (.str ⟨#[46]⟩)=some (.bool (s.data.toList==HR.data.toList)):=zS _ _
 have e3:bH .eql (.str s) (.str ⟨#[46,46]⟩)=some (.bool (s.data.toList==Fi.data.toList)):=zS _ _
 unfold AX
 generalize (s.data.toList==HR.data.toList)=B2 at *
 generalize (s.data.toList==Fi.data.toList)=B3 at *
 by_cases c1:s.size<1
 · refine wX (fn:=AP.f173) (h2:=h.eY) (e:=[(2,.bool false)]) rfl rfl rfl ?_ rfl (by rw[QL (show¬1≤s.size by omega)];rfl)
   simp (disch:=omega)only[go_sem,yZ,AP.f173]
 by_cases c2:8<s.size
 · refine wX (fn:=AP.f173) (h2:=h.eY) (e:=[(2,.bool false)]) rfl rfl rfl ?_ rfl (by rw[QL (show¬s.size≤8 by omega),QZ,QS];rfl)
   simp (disch:=omega)only[go_sem,yZ,AP.f173]
 rw[QM (show 1≤s.size by omega),QM (show s.size≤8 by omega),Bool.true_and,Bool.true_and]
 cases B2 with
 | true =>
   refine wX (fn:=AP.f173) (h2:=h.eY) (e:=[(2,.bool false)]) rfl rfl rfl ?_ rfl (by rw[Bool.not_true,QZ,QS];rfl)
   simp (disch:=omega)only[go_sem,yZ,AP.f173,e2]
 | false =>
   cases B3 with
   | true =>
     refine wX (fn:=AP.f173) (h2:=h.eY) (e:=[(2,.bool false)]) rfl rfl rfl ?_ rfl (by rw[Bool.not_true,QS,QS];rfl)
     simp (disch:=omega)only[go_sem,yZ,AP.f173,e2,e3]
   | false =>
     have ea:BW s=Ak s s.size 0:=by rw[C9];simp [BW]
     rw[ea]
     rcases GQ s (by omega) h.eY s.size 0 (by omega)with ⟨e',r1,r2⟩|⟨e',r1,r2,r3⟩
     · have r1':Lp AP.A [0,3] AP.f173L0 [(0,.str s),(3,.int .i64 0)] h.eY=some (.exit 0,e',h.eY):=r1
       clear r1
       rw[r2]
       refine wX (fn:=AP.f173) (h2:=h.eY) (e:=[(2,.bool true)]) rfl rfl rfl ?_ rfl rfl
       simp (disch:=omega)only[go_sem,yZ,AP.f173,e2,e3,vp,r1']
     · have r1':Lp AP.A [0,3] AP.f173L0 [(0,.str s),(3,.int .i64 0)] h.eY=some (.ret,e',h.eY):=r1
       clear r1
       rw[r3]
       refine wX (fn:=AP.f173) (h2:=h.eY) (e:=e') (vs:=[.bool false]) rfl rfl rfl ?_ (by simp only[AP.f173,di,pG,r2];rfl) rfl
       simp (disch:=omega)only[go_sem,yZ,AP.f173,e2,e3,vp,r1']
structure Tok where
 lit:Int
 len:Int
 Qz:Int
deriving DecidableEq
def Ext (h g:H):Prop:=∀id c,h.get id=some c→g.get id=some c
theorem Ext.refl (h:H):Ext h h:=fun _ _ q=>q
theorem Ext.trans {a b c:H} (x:Ext a b) (y:Ext b c):Ext a c:=fun i d q=>y i d (x i d q)
theorem Ext.alloc {a h:H} (x:Ext a h) (cs:List AV):Ext a (h.alloc cs):=fun i d q=>by
 have:=h.lt _ _ (x i d q)
 rw[H.bc,if_neg (by omega)];exact x i d q
theorem Ext.set {a h:H} (x:Ext a h) {id:Nat} (hid:a.next≤id) (cs:List AV):Ext a (h.set id cs):=fun i d q=>by
 have:=a.lt _ _ q
 rw[H.eh,if_neg (by omega)];exact x i d q
def zF (n:Int):Bool:=decide (0≤n)&&decide (n≤1048576)
theorem GH (h:H) (n:Int):aV AP.A 119 [.int .i64 n] h=some (.bool (zF n),h):=by
 refine wX (fn:=AP.f119) (h2:=h.eY) (e:=[(2,.bool (zF n))]) rfl rfl rfl ?_ rfl rfl
 unfold zF
 by_cases c1:0≤n<;>by_cases c2:n≤1048576<;>simp (disch:=omega)only[go_sem,yZ,AP.f119]
def Ev (n:Int):Bool:=decide (0≤n)&&decide (n<4)
theorem MP (h:H) (n:Int):aV AP.A 120 [.int .i64 n] h=some (.bool (Ev n),h):=by
 refine wX (fn:=AP.f120) (h2:=h.eY) (e:=[(2,.bool (Ev n))]) rfl rfl rfl ?_ rfl rfl
 unfold Ev
 by_cases c1:0≤n<;>by_cases c2:n<4<;>simp (disch:=omega)only[go_sem,yZ,AP.f120]
def G3 (v:AV):Bool:=match v with| .int .i64 n=> !zF n|_=>false
theorem HA (h:H) (n:Int):aV AP.A 123 [.int .i64 n] h=some (.bool (!zF n),h):=by
 have k1:=GH h.eY n
 refine wX (fn:=AP.f123) (h2:=h.eY) (e:=[(2,.bool (!zF n))]) rfl rfl rfl ?_ rfl rfl
 simp (disch:=omega)only[go_sem,yZ,AP.f123,k1]
def Bg (l:List Int):Bool:=decide (l.length=4)&&l.all zF
theorem CL:∀l:List Int,(ints l).any G3= !l.all zF
 |[]=>rfl
 | n :: l => by
   have:=CL l
   simp only[ints,QY,List.any_cons,List.all_cons,Bool.not_and]at *
   rw[this];rfl
theorem Jg (h:H) (v:AV) (l:List Int) (rd:Rd h v (ints l)) (hl:l.length<1125899906842624):aV AP.A 117 [v] h=some (.bool (Bg l),h):=by
 have rd':=rd.mono (yV h)
 have ln:=rd'.len
 rw[sD]at ln
 simp only[I]at ln
 refine wX (fn:=AP.f117) (h2:=h.eY) (e:=[(2,.bool (Bg l))]) rfl rfl rfl ?_ rfl rfl
 unfold Bg
 by_cases c:l.length=4
 · have k1:=Dj (fv:=.fn 123 [] []) G3 (fun x hx g=>by
    obtain⟨n,hn,rfl⟩:=List.mem_map.1 hx
    rw[qa];exact HA g n) (by simp;omega) h.eY rd'
   rw[CL]at k1
   have c':(l.length:Int)=4:=by omega
   simp (disch:=omega)only[go_sem,yZ,AP.f117,ln,k1,Bool.not_not]
 · have c':¬(l.length:Int)=4:=by omega
   simp (disch:=omega)only[go_sem,yZ,AP.f117,ln]
theorem Rd.Bb {h:H} {v:AV} {l:List Int} (r:Rd h v (ints l)):∃ad:Int→AV,(∀i:Int,0≤i∧i<l.length→iy 1 v (.int .i64 i)=some (ad i))∧
 ∀g:H,Ext h g→∀(i:Nat) (n:Int),l[i]?=some n→cq false 1 (ad i) g=some (.int .i64 n):=by
 have r2:=r.M7
 rw[sD]at r2
 obtain⟨ad,a1,_,_,a3⟩:=r2.at_
 refine⟨fun i=>ad i 0,a1,fun g hg i n hn=> ?_⟩
 have hi:i<l.length:=(xW.1 hn).1
 refine(a3 g hg).1 i 0 _ ⟨by omega,by omega⟩ ?_
 rw[Bt,Q3,Nat.add_zero]
 exact vP hn
theorem G5 {v:AV} {l:List Int} (hl:l.length<1125899906842624) (h:H) (rd:Rd h v (ints l)):∀(q p:List Int),l=p++q→
 (∃e',Lp AP.A [0,3] AP.f172L0 [(0,v),(3,.int .i64 p.length)] h=some (.exit 0,e',h)∧look e' 0=v∧q.all zF=true)∨
 (∃e',Lp AP.A [0,3] AP.f172L0 [(0,v),(3,.int .i64 p.length)] h=some (.ret,e',h)∧look e' 2=.bool false∧q.all zF=false)
 | [], p, hp => by
   left
   have ln:=rd.len
   rw[sD]at ln
   simp only[I]at ln
   rw[QT]at hp;subst hp
   refine⟨[(0,v),(3,.int .i64 l.length),(7,.bool false)],wh ?_,rfl,rfl⟩
   simp (disch:=omega)only[go_sem,yZ,AP.f172L0,ln]
 | n :: q, p, hp => by
   have ln:=rd.len
   rw[sD]at ln
   simp only[I]at ln
   have hlen:l.length=p.length+(q.length+1):=by rw[hp];simp
   have hv:l[p.length]?=some n:=by rw[hp];simp
   obtain⟨ad,a1,a2⟩:=rd.Bb
   have b1:=a1 p.length ⟨by omega,by omega⟩
   have b2:=a2 h (Ext.refl h) _ _ hv
   have w1:((p.length:Int)+1)=(((p++[n]).length:Nat):Int):=by simp
   have ih:=G5 hl h rd q (p++[n]) (by rw[hp];simp)
   rw[←w1]at ih
   rw[List.all_cons]
   clear a1 a2
   by_cases c1:n<0
   · right
     refine⟨[(2,.bool false)],wM ?_,rfl,by simp [zF];omega⟩
     clear ih w1
     simp (disch:=omega)only[go_sem,yZ,AP.f172L0,ln,b1,b2]
   by_cases c2:1048576<n
   · right
     refine⟨[(2,.bool false)],wM ?_,rfl,by simp [zF];omega⟩
     clear ih w1
     simp (disch:=omega)only[go_sem,yZ,AP.f172L0,ln,b1,b2]
   have cn:zF n=true:=by simp [zF];omega
   rw[cn,Bool.true_and]
   have step:aP (aV AP.A) bL AP.f172L0 (aC [(0,v),(3,.int .i64 p.length)] [0,3]) h=some (.normal,[(0,v),(3,.int .i64 ((p.length:Int)+1))],h):=by
    clear ih w1
    simp (disch:=omega)only[go_sem,yZ,AP.f172L0,ln,b1,b2]
   rcases ih with ⟨e',r1,r2,r3⟩|⟨e',r1,r2,r3⟩
   · exact .inl ⟨e',wj step r1,r2,r3⟩
   · exact .inr ⟨e',wj step r1,r2,r3⟩
theorem Gv (h:H) (v:AV) (l:List Int) (rd:Rd h v (ints l)) (hl:l.length<1125899906842624):aV AP.A 172 [v] h=some (.bool (Bg l),h):=by
 have rd':=rd.mono (yV h)
 have ln:=rd'.len
 rw[sD]at ln
 simp only[I]at ln
 unfold Bg
 rcases G5 hl h.eY rd' l [] rfl with ⟨e',r1,r2,r3⟩|⟨e',r1,r2,r3⟩
 · have r1':Lp AP.A [0,3] AP.f172L0 [(0,v),(3,.int .i64 0)] h.eY=some (.exit 0,e',h.eY):=r1
   clear r1
   rw[r3,Bool.and_true]
   refine wX (fn:=AP.f172) (h2:=h.eY) (e:=[(2,.bool (decide (l.length=4)))]) rfl rfl rfl ?_ rfl rfl
   by_cases c:l.length=4
   · have c':(l.length:Int)=4:=by omega
     simp (disch:=omega)only[go_sem,yZ,AP.f172,ln,vp,r1',r2]
   · have c':¬(l.length:Int)=4:=by omega
     simp (disch:=omega)only[go_sem,yZ,AP.f172,ln,vp,r1',r2]
 · have r1':Lp AP.A [0,3] AP.f172L0 [(0,v),(3,.int .i64 0)] h.eY=some (.ret,e',h.eY):=r1
   clear r1
   rw[r3,QS]
   refine wX (fn:=AP.f172) (h2:=h.eY) (e:=e') (vs:=[.bool false]) rfl rfl rfl ?_ (by simp only[AP.f172,di,pG,r2];rfl) rfl
   simp (disch:=omega)only[go_sem,yZ,AP.f172,ln,vp,r1',r2]
structure zO where
 name:ByteArray
 gone:Bool
 vec:List Int
 yW:Int
 node:Int
 method:Int
 packed:ByteArray
 size:Int
 DQ:Int
def yL (e:zO) (v:AV):List AV:=[.str e.name,.bool e.gone,v,.int .i64 e.yW,.int .i64 e.node,.int .i64 e.method,.str e.packed,.int .i64 e.size,.int .i64 e.DQ]
def Ar (e:zO):Bool:=Bg e.vec&&(decide (1≤e.yW)&&(zF e.yW&&Ev e.node))
structure PE (h:H) (p:AV) (cs:List AV):Prop where
 nil:∀g:H,kO g p=some (p,g)
 wy:∃q:Nat→AV,(∀k,gJ k p=some (q k))∧∀g:H,Ext h g→∀(k:Nat) (c:AV),cs[k]?=some c→cq false 1 (q k) g=some c
theorem MK (h:H) (p v:AV) (e:zO) (pe:PE h p (yL e v)) (rd:Rd h v (ints e.vec)) (hl:e.vec.length<1125899906842624):aV AP.A 112 [p] h=some (.bool (Ar e),h):=by
 have nl:=pe.nil
 obtain⟨q,f1,f2⟩:=pe.wy
 have l2:=f2 h (Ext.refl h) 2 v rfl
 have l3:=f2 h (Ext.refl h) 3 _ rfl
 have l4:=f2 h (Ext.refl h) 4 _ rfl
 have k1:=Jg h v e.vec rd hl
 have k2:=GH h e.yW
 have k3:=MP h e.node
 have c2:zF e.yW=true→1≤e.yW→True:=fun _ _=>trivial
 refine wF (fn:=AP.f112) (h2:=h) (e:=[(2,.bool (Ar e))]) (vs:=[.bool (Ar e)]) rfl rfl rfl ?_ rfl
 unfold Ar
 clear pe f2 rd c2
 generalize Bg e.vec=B1 at *
 generalize zF e.yW=B2 at *
 generalize Ev e.node=B3 at *
 by_cases c1:1≤e.yW<;>cases B1<;>cases B2<;>cases B3<;>simp (disch:=omega)only[go_sem,yZ,AP.f112,nl,f1,l2,l3,l4,k1,k2,k3]
theorem JA (h : H) (v : AV) (e : zO) (rd : Rd h v (ints e.vec)) (hv : v.sc = true) (hl : e.vec.length < 1125899906842624) : aV AP.A 169 [.agg (yL e v)] h = some (.bool (Ar e), h) := by
 have hx:Ext h.eY (h.eY.alloc (yL e v)):=(Ext.refl _).alloc _
 have k1:=Gv (h.eY.alloc (yL e v)) v e.vec (rd.mono fun id c q=>hx id c q) hl
 have g1:(h.eY.alloc (yL e v)).get h.next=some (yL e v):=yS rfl
 have hn:h.eY.next=h.next:=rfl
 refine wX (fn:=AP.f169) (h2:=h.eY.alloc (yL e v)) (e:=[(2,.bool (Ar e))]) rfl rfl rfl ?_ rfl rfl
 have hb:∀ev:Env,look ev 0=.agg (yL e v)→bh ev (.box 9 (.t 0))=some (yL e v,fun i=>.aH i 0):=by
  intro ev q
  simp only[bh,vt,q,ng]
  rw[if_pos ⟨rfl,by simp [yL,hv]⟩]
 obtain⟨h1,eh1⟩:∃g,g=h.eY.alloc (yL e v):=⟨_,rfl⟩
 rw[←eh1]at k1 g1 ⊢
 have hcnt:Ar e=(Bg e.vec&&(decide (1≤e.yW)&&(decide (e.yW≤1048576)&&(decide (0≤e.node)&&decide (e.node<4))))):=by
  unfold Ar zF Ev
  by_cases c1:1≤e.yW
  · rw[QM (show 0≤e.yW by omega)];simp
  · simp [c1]
 rw[hcnt]
 clear hcnt rd hx
 generalize Bg e.vec=B1 at *
 simp only[pD,pE,AP.f169]
 rw[u6,u5,vX,jV,hb _ rfl]
 simp only[oL,hn,←eh1]
 simp only[yL]at g1
 cases B1 with
 |false=>simp (disch:=omega)only[go_sem,yZ,k1,g1]
 | true =>
   by_cases c1:1≤e.yW
   · by_cases c2:e.yW≤1048576
     · by_cases c3:0≤e.node
       · by_cases c4:e.node<4<;>simp (disch:=omega)only[go_sem,yZ,k1,g1]
       · simp (disch:=omega)only[go_sem,yZ,k1,g1]
     · simp (disch:=omega)only[go_sem,yZ,k1,g1]
   · simp (disch:=omega)only[go_sem,yZ,k1,g1]
def Fz (s:ByteArray):Bool:=s.data.toList==(⟨#[]⟩:ByteArray).data.toList
def Bh (e:zO):Bool:=
 if e.gone then decide (e.method=0)&&(Fz e.packed&&(decide (e.size=0)&&decide (e.DQ=0)))
 else(decide (0≤e.size)&&(decide (e.size≤300)&&M5 e.DQ))&&(decide (e.method=0)&&decide ((e.packed.size:Int)=e.size)||decide (e.method=8)&&decide (e.packed.size≤300))
theorem Hc (h : H) (p v : AV) (e : zO) (pe : PE h p (yL e v)) : aV AP.A 122 [p] h = some (.bool (Bh e), h) := by
 have nl:=pe.nil
 obtain⟨q,f1,f2⟩:=pe.wy
 have l1:=f2 h (Ext.refl h) 1 _ rfl
 have l5:=f2 h (Ext.refl h) 5 _ rfl
 have l6:=f2 h (Ext.refl h) 6 _ rfl
 have l7:=f2 h (Ext.refl h) 7 _ rfl
 have l8:=f2 h (Ext.refl h) 8 _ rfl
 have k1:=Qi h e.DQ
 have e1:bH .eql (.str e.packed) (.str ⟨#[]⟩)=some (.bool (Fz e.packed)):=zS _ _
 refine wF (fn:=AP.f122) (h2:=h) (e:=[(2,.bool (Bh e))]) (vs:=[.bool (Bh e)]) rfl rfl rfl ?_ rfl
 unfold Bh
 clear pe f2
 generalize Fz e.packed=B1 at *
 generalize M5 e.DQ=B2 at *
 cases hg:e.gone with
 | true =>
   rw[hg]at l1
   rw[if_pos rfl]
   by_cases c1:e.method=0
   · cases B1 with
     |false=>simp (disch:=omega)only[go_sem,yZ,AP.f122,nl,f1,l1,l5,l6,l7,l8,e1]
     | true =>
       by_cases c2:e.size=0
       · by_cases c3:e.DQ=0<;>simp (disch:=omega)only[go_sem,yZ,AP.f122,nl,f1,l1,l5,l6,l7,l8,e1]
       · simp (disch:=omega)only[go_sem,yZ,AP.f122,nl,f1,l1,l5,l6,l7,l8,e1]
   · simp (disch:=omega)only[go_sem,yZ,AP.f122,nl,f1,l1,l5,l6,l7,l8,e1]
 | false =>
   rw[hg]at l1
   rw[if_neg (by decide)]
   by_cases c1:e.method=0
   · have c1':¬e.method=8:=by omega
     by_cases c2:(e.packed.size:Int)=e.size
     · by_cases c3:0≤e.size
       · by_cases c4:e.size≤300
         · cases B2<;>simp (disch:=omega)only[go_sem,yZ,AP.f122,nl,f1,l1,l5,l6,l7,l8,e1,k1]
         · simp (disch:=omega)only[go_sem,yZ,AP.f122,nl,f1,l1,l5,l6,l7,l8,e1,k1]
       · exfalso;omega
     · simp (disch:=omega)only[go_sem,yZ,AP.f122,nl,f1,l1,l5,l6,l7,l8,e1,k1]
   · by_cases c0:e.method=8
     · by_cases c2:e.packed.size≤300
       · by_cases c3:0≤e.size
         · by_cases c4:e.size≤300
           · cases B2<;>simp (disch:=omega)only[go_sem,yZ,AP.f122,nl,f1,l1,l5,l6,l7,l8,e1,k1]
           · simp (disch:=omega)only[go_sem,yZ,AP.f122,nl,f1,l1,l5,l6,l7,l8,e1,k1]
         · simp (disch:=omega)only[go_sem,yZ,AP.f122,nl,f1,l1,l5,l6,l7,l8,e1,k1]
       · simp (disch:=omega)only[go_sem,yZ,AP.f122,nl,f1,l1,l5,l6,l7,l8,e1,k1]
     · simp (disch:=omega)only[go_sem,yZ,AP.f122,nl,f1,l1,l5,l6,l7,l8,e1,k1]
def CM (prev:Option zO) (e:zO):Bool:=AX e.name&&((match prev with|none=>true|some p=>Op.bytesLess p.name.toList e.name.toList)&&(Ar e&&Bh e))
theorem GI (e:zO):CM none e=(AX e.name&&(Ar e&&Bh e)):=by simp [CM]
theorem Jr (p e:zO):CM (some p) e=(AX e.name&&(Op.bytesLess p.name.toList e.name.toList&&(Ar e&&Bh e))):=rfl
def DU:Option zO→List zO→Bool
 |_,[]=>true
 |p,e::r=>CM p e&&DU (some e) r
abbrev C8:=zO×AV
def PV (x:C8):List AV:=yL x.1 x.2
def Fk (l:List C8):List AV:=l.flatMap PV
theorem GJ (x:C8):(PV x).length=9:=rfl
structure Av (h:H) (x:C8):Prop where
 vec:Rd h x.2 (ints x.1.vec)
 vl:x.1.vec.length<1125899906842624
 nl:x.1.name.size<1125899906842624
 pl:x.1.packed.size<1125899906842624
theorem Av.mono {h g:H} {x:C8} (o:Av h x) (e:Ext h g):Av g x:=⟨o.vec.mono fun i c q=>e i c q,o.vl,o.nl,o.pl⟩
theorem G7 {v : AV} {l : List C8} (hn : l.length < 1125899906842624) (h : H) (b : Nat) (hb : h.get b = some [v]) (rd : DY 9 h v l.length (Fk l)) (hv : ∀ x ∈ l, Av h x) : ∀ (q p : List C8), l = p ++ q →
 (∃e',Lp AP.A [1,7,8] AP.f113L0 [(1,.aH b 0),(7,.int .i64 l.length),(8,.int .i64 p.length)] h=some (.exit 0,e',h)∧look e' 1=.aH b 0∧DU (p.getLast?.map (·.1)) (q.map (·.1))=true)∨
 (∃e',Lp AP.A [1,7,8] AP.f113L0 [(1,.aH b 0),(7,.int .i64 l.length),(8,.int .i64 p.length)] h=some (.ret,e',h)∧look e' 2=.bool false∧DU (p.getLast?.map (·.1)) (q.map (·.1))=false)
 | [], p, hp => by
   left
   rw[QT]at hp;subst hp
   refine⟨[(1,.aH b 0),(7,.int .i64 l.length),(8,.int .i64 l.length),(9,.bool false)],wh ?_,rfl,rfl⟩
   simp (disch:=omega)only[go_sem,yZ,AP.f113L0]
 | x :: q, p, hp => by
   have hlen:l.length=p.length+(q.length+1):=by rw[hp];simp
   have hx:l[p.length]?=some x:=by rw[hp];simp
   have ho:=hv x (by rw[hp];simp)
   obtain⟨ad,a1,a2,a4,a3⟩:=rd.at_
   have hI:(0:Int)≤(p.length:Int)∧(p.length:Int)<l.length:=⟨by omega,by omega⟩
   have b1:=a1 _ hI
   have pe:PE h (ad p.length 0) (yL x.1 x.2):=by
    refine⟨fun g=>a4 _ 0 g hI,fun k=>ad p.length (0+k),fun k=>a2 _ 0 k hI,fun g hg k c hc=> ?_⟩
    have hk:k<9:=(xW.1 hc).1
    refine(a3 g hg).1 _ _ _ hI ?_
    rw[Bt,ym,show Fk l=l.flatMap PV from rfl,EP GJ hx hk];exact hc
   have k1:=MO h x.1.name ho.nl
   have k2:=MK h _ _ x.1 pe ho.vec ho.vl
   have k3:=Hc h _ _ x.1 pe
   have nl:=pe.nil
   obtain⟨qq,f1,f2⟩:=pe.wy
   have l0:=f2 h (Ext.refl h) 0 _ rfl
   have ih:=G7 hn h b hb rd hv q (p++[x]) (by rw[hp];simp)
   have w1:(((p++[x]).length:Nat):Int)=(p.length:Int)+1:=by simp
   rw[w1,List.getLast?_concat]at ih
   have step : aP (aV AP.A) bL AP.f113L0 (aC [(1, .aH b 0), (7, .int .i64 l.length), (8, .int .i64 p.length)] [1, 7, 8]) h = if CM (p.getLast?.map (·.1)) x.1 then some (.normal, [(1, .aH b 0), (7, .int .i64 l.length), (8, .int .i64 ((p.length : Int) + 1))], h) else some (.ret, [(2, .bool false)], h) := by
    cases hl:p.getLast? with
    | none =>
      have hp0:p=[]:=List.getLast?_eq_none_iff.1 hl
      have hp1:p.length=0:=by rw[hp0];rfl
      clear ih w1 pe f2 a1 a2 a3 a4 hl hv hp ho hx
      rw[QP,GI]
      generalize AX x.1.name=B1 at *
      generalize Ar x.1=B3 at *
      generalize Bh x.1=B4 at *
      cases B1 with
      | false =>
        rw[QZ,if_neg (by decide)]
        simp (disch:=omega)only[go_sem,yZ,AP.f113L0,hb,b1,nl,f1,l0,k1,k2,k3]
      | true =>
        cases B3 with
        | false =>
          rw[QZ,QS,if_neg (by decide)]
          simp (disch:=omega)only[go_sem,yZ,AP.f113L0,hb,b1,nl,f1,l0,k1,k2,k3]
        | true =>
          cases B4 with
          | false =>
            rw[QS,QS,if_neg (by decide)]
            simp (disch:=omega)only[go_sem,yZ,AP.f113L0,hb,b1,nl,f1,l0,k1,k2,k3]
          | true =>
            rw[Bool.and_self,Bool.and_self,if_pos rfl]
            simp (disch:=omega)only[go_sem,yZ,AP.f113L0,hb,b1,nl,f1,l0,k1,k2,k3]
    | some y =>
      obtain⟨p',rfl⟩:∃p',p=p'++[y]:=List.getLast?_eq_some_iff.1 hl
      have hpl:(p'++[y]).length=p'.length+1:=by simp
      have hy:l[p'.length]?=some y:=by rw[hp];simp
      have hJ:(0:Int)≤(p'.length:Int)∧(p'.length:Int)<l.length:=⟨by omega,by omega⟩
      have bj:=a1 _ hJ
      have fj:=a2 _ 0 0 hJ
      have lj:=(a3 h (Ext.refl h)).1 p'.length (0+0) (.str y.1.name) hJ (by
       rw[Bt,show Fk l=l.flatMap PV from rfl,ym,EP GJ hy (by omega)];rfl)
      have cmp:bH .geq (.str y.1.name) (.str x.1.name)=some (.bool (!(Op.bytesLess y.1.name.toList x.1.name.toList))):=rfl
      have n2:(((p'++[y]).length:Nat):Int)-1=(p'.length:Int):=by rw[hpl];omega
      clear ih w1 pe f2 a1 a2 a3 a4 hl hv hp ho hx hy
      rw[QN,Jr]
      simp only[Nat.add_zero]at fj lj
      generalize Op.bytesLess y.1.name.toList x.1.name.toList=B2 at *
      generalize AX x.1.name=B1 at *
      generalize Ar x.1=B3 at *
      generalize Bh x.1=B4 at *
      generalize (p'++[y]).length=pl at *
      cases B1 with
      | false =>
        rw[QZ,if_neg (by decide)]
        simp (disch:=omega)only[go_sem,yZ,AP.f113L0,hb,b1,nl,f1,l0,k1,k2,k3,bj,fj,lj,cmp,n2]
      | true =>
        cases B2 with
        | false =>
          rw[QZ,QS,if_neg (by decide)]
          simp (disch:=omega)only[go_sem,yZ,AP.f113L0,hb,b1,nl,f1,l0,k1,k2,k3,bj,fj,lj,cmp,n2]
        | true =>
          cases B3 with
          | false =>
            rw[QZ,QS,QS,if_neg (by decide)]
            simp (disch:=omega)only[go_sem,yZ,AP.f113L0,hb,b1,nl,f1,l0,k1,k2,k3,bj,fj,lj,cmp,n2]
          | true =>
            cases B4 with
            | false =>
              rw[QS,QS,QS,if_neg (by decide)]
              simp (disch:=omega)only[go_sem,yZ,AP.f113L0,hb,b1,nl,f1,l0,k1,k2,k3,bj,fj,lj,cmp,n2]
            | true =>
              rw[Bool.and_self,Bool.and_self,Bool.and_self,if_pos rfl]
              simp (disch:=omega)only[go_sem,yZ,AP.f113L0,hb,b1,nl,f1,l0,k1,k2,k3,bj,fj,lj,cmp,n2]
   have hmay:DU (p.getLast?.map (·.1)) ((x::q).map (·.1))=(CM (p.getLast?.map (·.1)) x.1&&DU (some x.1) (q.map (·.1))):=rfl
   rw[hmay]
   by_cases hok:CM (p.getLast?.map (·.1)) x.1=true
   · rw[if_pos hok]at step
     rw[hok,Bool.true_and]
     rcases ih with ⟨e',r1,r2,r3⟩|⟨e',r1,r2,r3⟩
     · exact .inl ⟨e',wj step r1,r2,r3⟩
     · exact .inr ⟨e',wj step r1,r2,r3⟩
   · have hok':CM (p.getLast?.map (·.1)) x.1=false:=by simpa using hok
     rw[if_neg hok]at step
     rw[hok',QZ]
     exact .inr ⟨_,wM step,rfl,rfl⟩
def DT (l:List zO):Bool:=DU none l&&decide (l.length≤6)
theorem MZ (h:H) (v:AV) (l:List C8) (hvs:v.sc=true) (hn:l.length<1125899906842624) (rd:DY 9 h v l.length (Fk l)) (hv:∀x∈l,Av h x):aV AP.A 113 [.agg [v]] h=some (.bool (DT (l.map (·.1))),h):=by
 obtain⟨h1,eh1⟩:∃g,g=h.eY.alloc [v]:=⟨_,rfl⟩
 have hx:Ext h.eY h1:=by rw[eh1];exact(Ext.refl _).alloc _
 have hx0:Ext h h1:=fun i c q=>hx i c q
 have hn0:h.eY.next=h.next:=rfl
 have g1:h1.get h.next=some [v]:=by rw[eh1];exact yS rfl
 have rd1:=rd.mono fun i c q=>hx0 i c q
 have ln:=rd1.len
 have hb:∀ev:Env,look ev 0=.agg [v]→bh ev (.box 1 (.t 0))=some ([v],fun i=>.aH i 0):=by
  intro ev q
  simp only[bh,vt,q,ng]
  rw[if_pos ⟨rfl,by simp [hvs]⟩]
 unfold DT
 rcases G7 hn h1 h.next g1 rd1 (fun x hx=>(hv x hx).mono hx0) l [] rfl with ⟨e',r1,r2,r3⟩|⟨e',r1,r2,r3⟩
 · have r1':Lp AP.A [1,7,8] AP.f113L0 [(1,.aH h.next 0),(7,.int .i64 l.length),(8,.int .i64 0)] h1=some (.exit 0,e',h1):=r1
   clear r1
   have r3':DU none (l.map (·.1))=true:=r3
   rw[r3',Bool.true_and,List.length_map]
   refine wX (fn:=AP.f113) (h2:=h1) (e:=[(2,.bool (decide (l.length≤6)))]) rfl rfl rfl ?_ rfl rfl
   clear rd rd1 hv hx hx0 r3 r3'
   simp only[pD,pE,AP.f113]
   rw[u6,u5,vX,jV,hb _ rfl]
   simp only[oL,hn0,←eh1]
   by_cases c:l.length≤6
   · simp (disch:=omega)only[go_sem,yZ,g1,ln,vp,r1',r2]
   · simp (disch:=omega)only[go_sem,yZ,g1,ln,vp,r1',r2]
 · have r1':Lp AP.A [1,7,8] AP.f113L0 [(1,.aH h.next 0),(7,.int .i64 l.length),(8,.int .i64 0)] h1=some (.ret,e',h1):=r1
   clear r1
   have r3':DU none (l.map (·.1))=false:=r3
   rw[r3',QZ]
   refine wX (fn:=AP.f113) (h2:=h1) (e:=e') (vs:=[.bool false]) rfl rfl rfl ?_ (by simp only[AP.f113,di,pG,r2];rfl) rfl
   clear rd rd1 hv hx hx0 r3 r3'
   simp only[pD,pE,AP.f113]
   rw[u6,u5,vX,jV,hb _ rfl]
   simp only[oL,hn0,←eh1]
   simp (disch:=omega)only[go_sem,yZ,g1,ln,vp,r1']
def Ao (method : Int) (s : ByteArray) (size : Int) : Option ByteArray :=
 if size<0∨300<size then none
 else if method=0 then(if(s.size:Int)=size then some s else none)
 else if method=8 then(match Aa s size with
  | .ok (o,took)=>if(o.length:Int)=size∧took=s.size then some (bytesOf o)else none
  | .error _=>none)
 else none
theorem Cq {m : Int} {s : ByteArray} {z : Int} {t : ByteArray} (h : Ao m s z = some t) : (t.size : Int) = z ∧ 0 ≤ z ∧ z ≤ 300 := by
 unfold Ao at h
 split at h
 · cases h
 · rename_i q
   split at h
   · split at h
     · rename_i q2;obtain rfl:=xO h;omega
     · cases h
   · split at h
     · split at h
       · split at h
         · rename_i q2
           obtain rfl:=xO h
           rw[A6];omega
         · cases h
       · cases h
     · cases h
def Gu:Option ByteArray→AV
 |some t=>.cf [.str t,.int .i64 0]
 |none=>.cf [.str ⟨#[]⟩,.int .i64 900]
theorem Jf (h : H) (hf : h.floor ≤ h.next) (m : Int) (s : ByteArray) (z : Int) (hs : s.size < 1125899906842624) : aV AP.A 114 [.int .i64 m, .str s, .int .i64 z] h = some (Gu (Ao m s z), h) := by
 unfold Ao
 by_cases c1:z<0
 · rw[if_pos (.inl c1)]
   refine wX (fn:=AP.f114) (h2:=h.eY) (e:=[(6,.str ⟨#[]⟩),(7,.int .i64 900)]) rfl rfl rfl ?_ rfl rfl
   simp (disch:=omega)only[go_sem,yZ,AP.f114]
 by_cases c2:300<z
 · rw[if_pos (.inr c2)]
   refine wX (fn:=AP.f114) (h2:=h.eY) (e:=[(6,.str ⟨#[]⟩),(7,.int .i64 900)]) rfl rfl rfl ?_ rfl rfl
   simp (disch:=omega)only[go_sem,yZ,AP.f114]
 rw[if_neg (by omega)]
 by_cases c3:m=0
 · rw[if_pos c3]
   by_cases c4:(s.size:Int)=z
   · rw[if_pos c4]
     refine wX (fn:=AP.f114) (h2:=h.eY) (e:=[(6,.str s),(7,.int .i64 0)]) rfl rfl rfl ?_ rfl rfl
     simp (disch:=omega)only[go_sem,yZ,AP.f114]
   · rw[if_neg c4]
     refine wX (fn:=AP.f114) (h2:=h.eY) (e:=[(6,.str ⟨#[]⟩),(7,.int .i64 900)]) rfl rfl rfl ?_ rfl rfl
     simp (disch:=omega)only[go_sem,yZ,AP.f114]
 rw[if_neg c3]
 by_cases c5:m=8
 · rw [if_pos c5]
   have k1:=Hr h.eY (by simp) s z hs
   simp only[I]at k1
   cases hi:Aa s z with
   | error k =>
     rw[hi]at k1
     simp only[Hq,I]at k1
     have hk:=Ch hi
     have hk':¬k=0:=by rcases hk with rfl|rfl<;>decide
     clear hk
     refine wX (fn:=AP.f114) (h2:=h.eY) (e:=[(6,.str ⟨#[]⟩),(7,.int .i64 900)]) rfl rfl rfl ?_ rfl rfl
     simp (disch:=omega)only[go_sem,yZ,AP.f114,k1]
   | ok r =>
     obtain⟨o,took⟩:=r
     rw[hi]at k1
     simp only[Hq,I]at k1
     dsimp only
     have sz:=A6 o
     by_cases c6:(o.length:Int)=z
     · by_cases c7:took=s.size
       · rw[if_pos ⟨c6,c7⟩]
         refine wX (fn:=AP.f114) (h2:=h.eY) (e:=[(6,.str (bytesOf o)),(7,.int .i64 0)]) rfl rfl rfl ?_ rfl rfl
         simp (disch:=omega)only[go_sem,yZ,AP.f114,k1,sz]
       · rw[if_neg (fun q=>c7 q.2)]
         refine wX (fn:=AP.f114) (h2:=h.eY) (e:=[(6,.str ⟨#[]⟩),(7,.int .i64 900)]) rfl rfl rfl ?_ rfl rfl
         simp (disch:=omega)only[go_sem,yZ,AP.f114,k1,sz]
     · rw[if_neg (fun q=>c6 q.1)]
       refine wX (fn:=AP.f114) (h2:=h.eY) (e:=[(6,.str ⟨#[]⟩),(7,.int .i64 900)]) rfl rfl rfl ?_ rfl rfl
       simp (disch:=omega)only[go_sem,yZ,AP.f114,k1,sz]
 · rw[if_neg c5]
   refine wX (fn:=AP.f114) (h2:=h.eY) (e:=[(6,.str ⟨#[]⟩),(7,.int .i64 900)]) rfl rfl rfl ?_ rfl rfl
   simp (disch:=omega)only[go_sem,yZ,AP.f114]
theorem EE (h : H) (m : Int) (s : ByteArray) (z : Int) (hs : s.size < 1125899906842624) : aV AP.A 164 [.int .i64 m, .str s, .int .i64 z] h = some (Gu (Ao m s z), h) := by
 unfold Ao
 by_cases c1:z<0
 · rw[if_pos (.inl c1)]
   refine wX (fn:=AP.f164) (h2:=h.eY) (e:=[(6,.str ⟨#[]⟩),(7,.int .i64 900)]) rfl rfl rfl ?_ rfl rfl
   simp (disch:=omega)only[go_sem,yZ,AP.f164]
 by_cases c2:300<z
 · rw[if_pos (.inr c2)]
   refine wX (fn:=AP.f164) (h2:=h.eY) (e:=[(6,.str ⟨#[]⟩),(7,.int .i64 900)]) rfl rfl rfl ?_ rfl rfl
   simp (disch:=omega)only[go_sem,yZ,AP.f164]
 rw[if_neg (by omega)]
 by_cases c3:m=0
 · rw[if_pos c3]
   by_cases c4:(s.size:Int)=z
   · rw[if_pos c4]
     refine wX (fn:=AP.f164) (h2:=h.eY) (e:=[(6,.str s),(7,.int .i64 0)]) rfl rfl rfl ?_ rfl rfl
     simp (disch:=omega)only[go_sem,yZ,AP.f164]
   · rw[if_neg c4]
     refine wX (fn:=AP.f164) (h2:=h.eY) (e:=[(6,.str ⟨#[]⟩),(7,.int .i64 900)]) rfl rfl rfl ?_ rfl rfl
     simp (disch:=omega)only[go_sem,yZ,AP.f164]
 rw[if_neg c3]
 by_cases c5:m=8
 · rw [if_pos c5]
   have k1:=Ga h.eY s z hs
   simp only[I]at k1
   cases hi:Aa s z with
   | error k =>
     rw[hi]at k1
     simp only[Hq,I]at k1
     have hk:=Ch hi
     have hk':¬k=0:=by rcases hk with rfl|rfl<;>decide
     clear hk
     refine wX (fn:=AP.f164) (h2:=h.eY) (e:=[(6,.str ⟨#[]⟩),(7,.int .i64 900)]) rfl rfl rfl ?_ rfl rfl
     simp (disch:=omega)only[go_sem,yZ,AP.f164,k1]
   | ok r =>
     obtain⟨o,took⟩:=r
     rw[hi]at k1
     simp only[Hq,I]at k1
     dsimp only
     have sz:=A6 o
     by_cases c6:(o.length:Int)=z
     · by_cases c7:took=s.size
       · rw[if_pos ⟨c6,c7⟩]
         refine wX (fn:=AP.f164) (h2:=h.eY) (e:=[(6,.str (bytesOf o)),(7,.int .i64 0)]) rfl rfl rfl ?_ rfl rfl
         simp (disch:=omega)only[go_sem,yZ,AP.f164,k1,sz]
       · rw[if_neg (fun q=>c7 q.2)]
         refine wX (fn:=AP.f164) (h2:=h.eY) (e:=[(6,.str ⟨#[]⟩),(7,.int .i64 900)]) rfl rfl rfl ?_ rfl rfl
         simp (disch:=omega)only[go_sem,yZ,AP.f164,k1,sz]
     · rw[if_neg (fun q=>c6 q.1)]
       refine wX (fn:=AP.f164) (h2:=h.eY) (e:=[(6,.str ⟨#[]⟩),(7,.int .i64 900)]) rfl rfl rfl ?_ rfl rfl
       simp (disch:=omega)only[go_sem,yZ,AP.f164,k1,sz]
 · rw[if_neg c5]
   refine wX (fn:=AP.f164) (h2:=h.eY) (e:=[(6,.str ⟨#[]⟩),(7,.int .i64 900)]) rfl rfl rfl ?_ rfl rfl
   simp (disch:=omega)only[go_sem,yZ,AP.f164]
def zI (e : zO) : Option ByteArray :=
 if DT [e]=false then none
 else if e.gone then some ⟨#[]⟩
 else match Ao e.method e.packed e.size with
  |some t=>if(A8 t:Int)=e.DQ then some t else none
  |none=>none
theorem I9 (h : H) (hf : h.floor ≤ h.next) (e : zO) (v : AV) (hv : v.sc = true) (ok : Av h (e, v)) : ∃ t, aV AP.A 107 [.agg (yL e v)] h = some (.cf [.str t, .bool (zI e).isSome], h) ∧ (∀ u, zI e = some u → t = u) := by
 obtain⟨h1,eh1⟩:∃g,g=h.eY.alloc (yL e v):=⟨_,rfl⟩
 obtain⟨h2,eh2⟩:∃g,g=h1.alloc (yL e v):=⟨_,rfl⟩
 have hx1:Ext h h1:=fun i c q=>by rw[eh1];exact((Ext.refl h.eY).alloc _) i c q
 have hx2:Ext h h2:=by rw[eh2];exact hx1.alloc _
 have hn0:h.eY.next=h.next:=rfl
 have hn1:h1.next=h.next+1:=by rw[eh1];simp
 have g1:h2.get h.next=some (yL e v):=by rw[eh2,yR (by omega),eh1,yS (by simp)]
 have g0:h1.get h.next=some (yL e v):=by rw[eh1,yS (by simp)]
 have o:DY 9 h2 (.aI (h.next+1) 0 1 9) 1 (Fk [(e,v)]):=by
  refine⟨?_,rfl,fun _=>by simp⟩
  simp only[aW,if_true]
  rw[eh2,yS (by omega)]
  rfl
 have k1:=MZ h2 (.aI (h.next+1) 0 1 9) [(e,v)] rfl (by simp) o (fun x hx=>by
  obtain rfl:x=(e,v):=by simpa using hx
  exact ok.mono hx2)
 have k1':aV AP.A 113 [.agg [.aI (h.next+1) 0 1 9]] h2=some (.bool (DT [e]),h2):=k1
 have hf2:h2.floor≤h2.next:=by rw[eh2,eh1];simp;omega
 have k2:=Jf h2 hf2 e.method e.packed e.size ok.pl
 have rdA:jj true 9 (yL e v) 0=some (.agg (yL e v)):=rfl
 have cr:∀t:ByteArray,t.size<1125899906842624→aV AP.A 115 [.str t] h2=some (.int .i64 (A8 t:Nat),h2):=fun t ht=>Ip h2 t ht
 clear k1 o hx1 hx2
 unfold zI
 simp only[yL]at *
 cases hm:DT [e]with
 | false =>
   rw[hm]at k1'
   refine⟨⟨#[]⟩, ?_,fun u q=>by simp at q⟩
   rw[if_pos rfl]
   refine wX (fn:=AP.f107) (h2:=h2) (e:=[(2,.str ⟨#[]⟩),(3,.bool false)]) rfl rfl rfl ?_ rfl rfl
   simp (disch:=omega)only[go_sem,yZ,AP.f107,hv,hn0,←eh1,g0,rdA,hn1,←eh2,k1']
 | true =>
   rw[hm]at k1'
   rw[if_neg (by decide)]
   cases hg:e.gone with
   | true =>
     rw[hg]at g1 g0 eh1 eh2 rdA
     refine⟨⟨#[]⟩, ?_,fun u q=>by simpa using q⟩
     refine wX (fn:=AP.f107) (h2:=h2) (e:=[(2,.str ⟨#[]⟩),(3,.bool true)]) rfl rfl rfl ?_ rfl rfl
     simp (disch:=omega)only[go_sem,yZ,AP.f107,hv,hn0,←eh1,g0,g1,rdA,hn1,←eh2,k1']
   | false =>
     rw[hg]at g1 g0 eh1 eh2 rdA
     rw[if_neg (by decide)]
     cases hu:Ao e.method e.packed e.size with
     | none =>
       rw[hu]at k2
       simp only[Gu]at k2
       refine⟨⟨#[]⟩, ?_,fun u q=>by simp at q⟩
       refine wX (fn:=AP.f107) (h2:=h2) (e:=[(2,.str ⟨#[]⟩),(3,.bool false)]) rfl rfl rfl ?_ rfl rfl
       simp (disch:=omega)only[go_sem,yZ,AP.f107,hv,hn0,←eh1,g0,g1,rdA,hn1,←eh2,k1',k2]
     | some t =>
       rw[hu]at k2
       simp only[Gu]at k2
       have kc:=cr t (by have:=Cq hu;omega)
       dsimp only
       by_cases c:(A8 t:Int)=e.DQ
       · rw[if_pos c]
         refine⟨t, ?_,fun u q=>xO q⟩
         refine wX (fn:=AP.f107) (h2:=h2) (e:=[(2,.str t),(3,.bool true)]) rfl rfl rfl ?_ rfl rfl
         simp (disch:=omega)only[go_sem,yZ,AP.f107,hv,hn0,←eh1,g0,g1,rdA,hn1,←eh2,k1',k2,kc]
       · rw[if_neg c]
         refine⟨t, ?_,fun u q=>by simp at q⟩
         refine wX (fn:=AP.f107) (h2:=h2) (e:=[(2,.str t),(3,.bool false)]) rfl rfl rfl ?_ rfl rfl
         simp (disch:=omega)only[go_sem,yZ,AP.f107,hv,hn0,←eh1,g0,g1,rdA,hn1,←eh2,k1',k2,kc]
def zK (e:zO):Bool:=(zI e).isSome
theorem BN (h:H) (hf:h.floor≤h.next) (e:zO) (v:AV) (hv:v.sc=true) (ok:Av h (e,v)):aV AP.A 96 [.agg (yL e v)] h=some (.bool (zK e),h):=by
 obtain⟨h1,eh1⟩:∃g,g=h.eY.alloc (yL e v):=⟨_,rfl⟩
 have hx1:Ext h h1:=fun i c q=>by rw[eh1];exact((Ext.refl h.eY).alloc _) i c q
 have hn0:h.eY.next=h.next:=rfl
 have g0:h1.get h.next=some (yL e v):=by rw[eh1,yS (by simp)]
 obtain⟨t,k1,_⟩:=I9 h1 (by rw[eh1];simp) e v hv (ok.mono hx1)
 have rdA:jj true 9 (yL e v) 0=some (.agg (yL e v)):=rfl
 refine wX (fn:=AP.f96) (h2:=h1) (e:=[(2,.bool (zK e))]) rfl rfl rfl ?_ rfl rfl
 clear hx1
 unfold zK
 simp only[yL]at *
 simp (disch:=omega)only[go_sem,yZ,AP.f96,hv,hn0,←eh1,g0,rdA,k1]
def DX (e:zO):AV:=match zI e with
 |none=>.cf [.str ⟨#[]⟩,.int .i64 1500]
 |some t=>if e.gone then .cf [.str ⟨#[]⟩,.int .i64 1501]else .cf [.str t,.int .i64 0]
theorem EN (h:H) (hf:h.floor≤h.next) (e:zO) (v:AV) (hv:v.sc=true) (ok:Av h (e,v)):aV AP.A 100 [.agg (yL e v)] h=some (DX e,h):=by
 obtain⟨h1,eh1⟩:∃g,g=h.eY.alloc (yL e v):=⟨_,rfl⟩
 have hx1:Ext h h1:=fun i c q=>by rw[eh1];exact((Ext.refl h.eY).alloc _) i c q
 have hn0:h.eY.next=h.next:=rfl
 have g0:h1.get h.next=some (yL e v):=by rw[eh1,yS (by simp)]
 obtain⟨t,k1,kt⟩:=I9 h1 (by rw[eh1];simp) e v hv (ok.mono hx1)
 have rdA:jj true 9 (yL e v) 0=some (.agg (yL e v)):=rfl
 unfold DX
 clear hx1
 cases ht:zI e with
 | none =>
   rw[ht]at k1
   refine wX (fn:=AP.f100) (h2:=h1) (e:=[(2,.str ⟨#[]⟩),(3,.int .i64 1500)]) rfl rfl rfl ?_ rfl rfl
   simp only[yL,Option.isSome_none]at *
   simp (disch:=omega)only[go_sem,yZ,AP.f100,hv,hn0,←eh1,g0,rdA,k1]
 | some u =>
   rw[ht]at k1
   obtain rfl:=kt u ht
   cases hg:e.gone with
   | true =>
     refine wX (fn:=AP.f100) (h2:=h1) (e:=[(2,.str ⟨#[]⟩),(3,.int .i64 1501)]) rfl rfl rfl ?_ rfl rfl
     simp only[yL,Option.isSome_some,hg]at *
     simp (disch:=omega)only[go_sem,yZ,AP.f100,hv,hn0,←eh1,g0,rdA,k1]
   | false =>
     refine wX (fn:=AP.f100) (h2:=h1) (e:=[(2,.str t),(3,.int .i64 0)]) rfl rfl rfl ?_ rfl rfl
     simp only[yL,Option.isSome_some,hg]at *
     simp (disch:=omega)only[go_sem,yZ,AP.f100,hv,hn0,←eh1,g0,rdA,k1]
theorem J2 (e:zO):DT [e]=(AX e.name&&(Ar e&&Bh e)):=by
 unfold DT DU
 rw[GI]
 simp [DU]
theorem ML (h : H) (e : zO) (v : AV) (hv : v.sc = true) (ok : Av h (e, v)) : aV AP.A 167 [.agg (yL e v)] h = some (.bool (DT [e]), h) := by
 obtain⟨h1,eh1⟩:∃g,g=h.eY.alloc (yL e v):=⟨_,rfl⟩
 have hx1:Ext h h1:=fun i c q=>by rw[eh1];exact((Ext.refl h.eY).alloc _) i c q
 have hn0:h.eY.next=h.next:=rfl
 have g0:h1.get h.next=some (yL e v):=by rw[eh1,yS (by simp)]
 have k1:=JI h1 e.name ok.nl
 have k2:=JA h1 v e (ok.mono hx1).vec hv ok.vl
 have e1:bH .eql (.str e.packed) (.str ⟨#[]⟩)=some (.bool (Fz e.packed)):=zS _ _
 have rdA:jj true 9 (yL e v) 0=some (.agg (yL e v)):=rfl
 rw[J2]
 refine wX (fn:=AP.f167) (h2:=h1) (e:=[(2,.bool (AX e.name&&(Ar e&&Bh e)))]) rfl rfl rfl ?_ rfl rfl
 clear hx1 ok
 unfold Bh M5
 generalize AX e.name=B1 at *
 generalize Ar e=B2 at *
 generalize Fz e.packed=B3 at *
 simp only[yL]at *
 cases B1 with
 |false=>simp (disch:=omega)only[go_sem,yZ,AP.f167,hv,hn0,←eh1,g0,rdA,k1,k2]
 | true =>
   cases B2 with
   |false=>simp (disch:=omega)only[go_sem,yZ,AP.f167,hv,hn0,←eh1,g0,rdA,k1,k2]
   | true =>
     cases hg:e.gone with
     | true =>
       rw[hg]at g0 eh1 rdA k2
       rw[if_pos rfl]
       by_cases c1:e.method=0
       · cases B3 with
         |false=>simp (disch:=omega)only[go_sem,yZ,AP.f167,hv,hn0,←eh1,g0,rdA,k1,k2,e1]
         | true =>
           by_cases c2:e.size=0
           · by_cases c3:e.DQ=0<;>simp (disch:=omega)only[go_sem,yZ,AP.f167,hv,hn0,←eh1,g0,rdA,k1,k2,e1]
           · simp (disch:=omega)only[go_sem,yZ,AP.f167,hv,hn0,←eh1,g0,rdA,k1,k2,e1]
       · simp (disch:=omega)only[go_sem,yZ,AP.f167,hv,hn0,←eh1,g0,rdA,k1,k2,e1]
     | false =>
       rw[hg]at g0 eh1 rdA k2
       rw[if_neg (by decide)]
       by_cases c1:0≤e.size
       · by_cases c2:e.size≤300
         · by_cases c3:0≤e.DQ
           · by_cases c4:e.DQ≤4294967295
             · by_cases c5:e.method=0
               · have c5':¬e.method=8:=by omega
                 by_cases c6:(e.packed.size:Int)=e.size<;>simp (disch:=omega)only[go_sem,yZ,AP.f167,hv,hn0,←eh1,g0,rdA,k1,k2,e1]
               · by_cases c7:e.method=8
                 · by_cases c8:e.packed.size≤300<;>simp (disch:=omega)only[go_sem,yZ,AP.f167,hv,hn0,←eh1,g0,rdA,k1,k2,e1]
                 · simp (disch:=omega)only[go_sem,yZ,AP.f167,hv,hn0,←eh1,g0,rdA,k1,k2,e1]
             · have c4':¬(0≤e.DQ∧e.DQ≤4294967295):=by omega
               simp (disch:=omega)only[go_sem,yZ,AP.f167,hv,hn0,←eh1,g0,rdA,k1,k2,e1]
           · have c4':¬(0≤e.DQ∧e.DQ≤4294967295):=by omega
             simp (disch:=omega)only[go_sem,yZ,AP.f167,hv,hn0,←eh1,g0,rdA,k1,k2,e1]
         · simp (disch:=omega)only[go_sem,yZ,AP.f167,hv,hn0,←eh1,g0,rdA,k1,k2,e1]
       · simp (disch:=omega)only[go_sem,yZ,AP.f167,hv,hn0,←eh1,g0,rdA,k1,k2,e1]
theorem Bz (h : H) (e : zO) (v : AV) (hv : v.sc = true) (ok : Av h (e, v)) : aV AP.A 157 [.agg (yL e v)] h = some (.bool (zK e), h) := by
 obtain⟨h1,eh1⟩:∃g,g=h.eY.alloc (yL e v):=⟨_,rfl⟩
 have hx1:Ext h h1:=fun i c q=>by rw[eh1];exact((Ext.refl h.eY).alloc _) i c q
 have hn0:h.eY.next=h.next:=rfl
 have g0:h1.get h.next=some (yL e v):=by rw[eh1,yS (by simp)]
 have k1:=ML h1 e v hv (ok.mono hx1)
 have k2:=EE h1 e.method e.packed e.size ok.pl
 have rdA:jj true 9 (yL e v) 0=some (.agg (yL e v)):=rfl
 have cr:∀t:ByteArray,t.size<1125899906842624→aV AP.A 101 [.str t] h1=some (.int .i64 (A8 t:Nat),h1):=fun t ht=>HP h1 t ht
 unfold zK zI
 clear hx1 ok
 cases hm:DT [e]with
 | false =>
   rw[hm]at k1
   rw[if_pos rfl]
   refine wX (fn:=AP.f157) (h2:=h1) (e:=[(2,.bool false)]) rfl rfl rfl ?_ rfl rfl
   simp only[yL]at *
   simp (disch:=omega)only[go_sem,yZ,AP.f157,hv,hn0,←eh1,g0,rdA,k1]
 | true =>
   rw[hm]at k1
   rw[if_neg (by decide)]
   cases hg:e.gone with
   | true =>
     refine wX (fn:=AP.f157) (h2:=h1) (e:=[(2,.bool true)]) rfl rfl rfl ?_ rfl rfl
     simp only[yL,hg]at *
     simp (disch:=omega)only[go_sem,yZ,AP.f157,hv,hn0,←eh1,g0,rdA,k1]
   | false =>
     rw[if_neg (by decide)]
     cases hu:Ao e.method e.packed e.size with
     | none =>
       rw[hu]at k2
       simp only[Gu]at k2
       refine wX (fn:=AP.f157) (h2:=h1) (e:=[(2,.bool false)]) rfl rfl rfl ?_ rfl rfl
       simp only[yL,hg]at *
       simp (disch:=omega)only[go_sem,yZ,AP.f157,hv,hn0,←eh1,g0,rdA,k1,k2]
     | some t =>
       rw[hu]at k2
       simp only[Gu]at k2
       have kc:=cr t (by have:=Cq hu;omega)
       dsimp only
       by_cases c:(A8 t:Int)=e.DQ
       · rw[if_pos c]
         refine wX (fn:=AP.f157) (h2:=h1) (e:=[(2,.bool true)]) rfl rfl rfl ?_ rfl rfl
         simp only[yL,hg]at *
         simp (disch:=omega)only[go_sem,yZ,AP.f157,hv,hn0,←eh1,g0,rdA,k1,k2,kc]
       · rw[if_neg c]
         refine wX (fn:=AP.f157) (h2:=h1) (e:=[(2,.bool false)]) rfl rfl rfl ?_ rfl rfl
         simp only[yL,hg]at *
         simp (disch:=omega)only[go_sem,yZ,AP.f157,hv,hn0,←eh1,g0,rdA,k1,k2,kc]
theorem Fj {e:zO} {t:ByteArray} (h:zI e=some t) (hg:e.gone=false):Ao e.method e.packed e.size=some t:=by
 unfold zI at h
 rw[hg]at h
 split at h
 · cases h
 · simp only[xY,yI]at h
   split at h
   · rename_i q
     split at h
     · obtain rfl:=xO h;exact q
     · cases h
   · cases h
theorem HT (h:H) (e:zO) (v:AV) (hv:v.sc=true) (ok:Av h (e,v)):aV AP.A 155 [.agg (yL e v)] h=some (DX e,h):=by
 obtain⟨h1,eh1⟩:∃g,g=h.eY.alloc (yL e v):=⟨_,rfl⟩
 have hx1:Ext h h1:=fun i c q=>by rw[eh1];exact((Ext.refl h.eY).alloc _) i c q
 have hn0:h.eY.next=h.next:=rfl
 have g0:h1.get h.next=some (yL e v):=by rw[eh1,yS (by simp)]
 have k1:=Bz h1 e v hv (ok.mono hx1)
 have k2:=EE h1 e.method e.packed e.size ok.pl
 have rdA:jj true 9 (yL e v) 0=some (.agg (yL e v)):=rfl
 unfold DX
 unfold zK at k1
 clear hx1 ok
 cases ht:zI e with
 | none =>
   rw[ht]at k1
   refine wX (fn:=AP.f155) (h2:=h1) (e:=[(2,.str ⟨#[]⟩),(3,.int .i64 1500)]) rfl rfl rfl ?_ rfl rfl
   simp only[yL,Option.isSome_none]at *
   simp (disch:=omega)only[go_sem,yZ,AP.f155,hv,hn0,←eh1,g0,rdA,k1]
 | some u =>
   rw[ht]at k1
   cases hg:e.gone with
   | true =>
     refine wX (fn:=AP.f155) (h2:=h1) (e:=[(2,.str ⟨#[]⟩),(3,.int .i64 1501)]) rfl rfl rfl ?_ rfl rfl
     simp only[yL,Option.isSome_some,hg]at *
     simp (disch:=omega)only[go_sem,yZ,AP.f155,hv,hn0,←eh1,g0,rdA,k1]
   | false =>
     rw[Fj ht hg]at k2
     simp only[Gu]at k2
     refine wX (fn:=AP.f155) (h2:=h1) (e:=[(2,.str u),(3,.int .i64 0)]) rfl rfl rfl ?_ rfl rfl
     simp only[yL,Option.isSome_some,hg]at *
     simp (disch:=omega)only[go_sem,yZ,AP.f155,hv,hn0,←eh1,g0,rdA,k1,k2]
theorem Iq (c:ah) (e:Env) (h:H) (x y:X):ai c e h (.mx [x,y])=dV h (oF (x.ev e) (y.ev e)):=by
 simp only[ai,bg,QY,Q2,iM]
 cases oF (x.ev e) (y.ev e)<;>rfl
def zE (a b:Int):Int:=if a<b then b else a
theorem Gy (k:IntKind) (a b:Int):oF (.int k a) (.int k b)=some (.int k (zE a b)):=rfl
def zr (a b:List Int):List Int:=List.zipWith zE a b
theorem Rd.Qj {h:H} {v:AV} {cs:List AV} (r:Rd h v cs) (hc:cs≠[]):gW 1 v .aT=some false:=by
 obtain⟨r,hs⟩:=r
 unfold aW at r
 split at r
 · obtain⟨_,h2⟩:=xR (xO r);exact absurd h2.symm hc
 · exact absurd rfl (hs _)
 · rfl
 · rfl
 · cases r
theorem DZ {n:Nat} {h:H} {v:AV} {k:Nat} {cs:List AV} (r:DY n h v k cs) (hfn:h.floor≤h.next) (hn:0<n) (hk:0<k) {z:Nat} (hr:roomy z k=true) (hc:AV.aG cs=true):
 mV (h.alloc []) n z (.aI h.next 0 0 n) v=some (.aI (h.next+1) 0 k n,((h.alloc []).del h.next).alloc cs):=by
 have r2:DY n (h.alloc []) v k cs:=r.mono fun i c q=>by rw[H.bc,if_neg (by have:=h.lt _ _ q;omega)];exact q
 unfold mV
 rw[r2.1,xX]
 have hkn:0<k* n:=Nat.mul_pos hk hn
 unfold eT
 rw[if_neg (by omega),if_neg (by simp [hc];omega)]
 simp only[H.kE,hfn,and_self,if_true]
 rw[yS rfl,xX,if_neg (by simp;omega),if_pos ⟨by simp,by simpa using hr⟩]
 simp
theorem FY {n:Nat} {h:H} {v:AV} {cs:List AV} (r:DY n h v 0 cs) {z:Nat}:mV (h.alloc []) n z (.aI h.next 0 0 n) v=some (.aI h.next 0 0 n,h.alloc []):=by
 have r2:DY n (h.alloc []) v 0 cs:=r.mono fun i c q=>by rw[H.bc,if_neg (by have:=h.lt _ _ q;omega)];exact q
 unfold mV
 rw[r2.1,xX]
 rfl
theorem Ba:∀l:List Int,AV.aG (ints l)=true
 |[]=>rfl
 | n :: l => by
   have:=Ba l
   show AV.aG (I n::ints l)=true
   rw[sZ,this];rfl
theorem Jn (h:H) (v:AV) (l:List Int) (rd:Rd h v (ints l)) (hl:0<l.length) (hb:l.length<1000000) (hfn:h.floor≤h.next):aV AP.A 118 [v] h=some (.aI (h.next+1) 0 l.length 1,((h.alloc []).del h.next).alloc (ints l)):=by
 have r2:=rd.M7
 rw[sD]at r2
 have ap:=DZ r2 hfn (by omega) hl (z:=8) (by simp [roomy];omega) (Ba l)
 have nn:=rd.Qj (fun q=>by
  have q2:(ints l).length=0:=by rw[q];rfl
  rw[sD]at q2
  omega)
 refine wF (fn:=AP.f118) (h2:=((h.alloc []).del h.next).alloc (ints l)) (e:=[(2,.aI (h.next+1) 0 l.length 1)]) (vs:=[.aI (h.next+1) 0 l.length 1]) rfl rfl rfl ?_ rfl
 clear rd r2
 simp (disch:=omega)only[go_sem,yZ,AP.f118,nn,ap]
theorem J1 {l:List Int} (h:l.length=4):∃a b c d,l=[a,b,c,d]:=by
 match l,h with
 |[a,b,c,d],_=>exact⟨a,b,c,d,rfl⟩
def AM (l:List Int):AV:=IJ 1 l.length (ints l)
theorem BE (h:H) (id:Nat) (b0:AV) (adv:Int→AV) (i:Nat) (x y:Int) (cs:List AV) (hi:i<4) (hg:h.get id=some cs) (hl:cs.length=4) (hx:cs[i]?=some (.int .i64 x)) (hf:h.floor≤id)
 (a1:iy 1 b0 (.int .i64 i)=some (adv i)) (a2:cq false 1 (adv i) h=some (.int .i64 y)):
 aP (aV AP.A) bL AP.f110L0 (aC [(6,.aI id 0 4 1),(19,b0),(20,.int .i64 4),(21,.int .i64 i)] [6,19,20,21]) h=some (.normal,[(6,.aI id 0 4 1),(19,b0),(20,.int .i64 4),(21,.int .i64 ((i:Int)+1))],h.set id (cs.set i (.int .i64 (zE x y)))):=by
 have st:=xG (h:=h) (id:=id) (off:=i) (v:=.int .i64 (zE x y)) (cs:=cs) hf (by omega) rfl
 simp (disch:=omega)only[go_sem,yZ,AP.f110L0,a1,a2,hg,hx,Iq,Gy,st]
def Dh (a b:Int):Int:=if a<b then-1 else if b<a then 1 else 0
theorem J4 (h:H) (a:Int):aV AP.A 116 [.int .i64 a] h=some (.bool false,h):=by
 refine wX (fn:=AP.f116) (h2:=h.eY) (e:=[(2,.bool false)]) rfl rfl rfl ?_ rfl rfl
 simp (disch:=omega)only[go_sem,yZ,AP.f116]
theorem JW (h:H) (a b:Int):aV AP.A 109 [.int .i64 a,.int .i64 b] h=some (.int .i64 (Dh a b),h):=by
 have k1:=J4 h.eY a
 have k2:=J4 h.eY b
 unfold Dh
 refine wX (fn:=AP.f109) (h2:=h.eY) (e:=[(4,.int .i64 (if a<b then-1 else if b<a then 1 else 0))]) rfl rfl rfl ?_ rfl rfl
 by_cases c1:a<b
 · rw[if_pos c1];simp (disch:=omega)only[go_sem,yZ,AP.f109,k1,k2]
 · rw[if_neg c1]
   by_cases c2:b<a
   · rw[if_pos c2];simp (disch:=omega)only[go_sem,yZ,AP.f109,k1,k2]
   · rw[if_neg c2];simp (disch:=omega)only[go_sem,yZ,AP.f109,k1,k2]
def PX (a b:Int):Int:=if a=0 then b else a
theorem Ql (h : H) (v : AV) (a b : Int) (rd : Rd h v (ints [a, b])) : aV AP.A 108 [v] h = some (.int .i64 (PX a b), h) := by
 have rd':=rd.mono (yV h)
 have ln:j6 false v=some (.int .i64 2):=rd'.len
 obtain⟨ad,a1,a2⟩:=rd'.Bb
 have i0:=a1 0 (by simp)
 have i1:=a1 1 (by simp)
 have l0:cq false 1 (ad 0) h.eY=some (.int .i64 a):=a2 h.eY (Ext.refl _) 0 a rfl
 have l1:cq false 1 (ad 1) h.eY=some (.int .i64 b):=a2 h.eY (Ext.refl _) 1 b rfl
 clear a1 a2 rd rd'
 unfold PX
 by_cases c1:a=0
 · rw [if_pos c1]
   have s0:aP (aV AP.A) bL AP.f108L0 (aC [(3,.int .i64 0),(6,v),(7,.int .i64 2),(8,.int .i64 0)] [3,6,7,8]) h.eY=some (.normal,[(3,.int .i64 0),(6,v),(7,.int .i64 2),(8,.int .i64 1)],h.eY):=by
    simp (disch:=omega)only[go_sem,yZ,AP.f108L0,i0,l0]
   by_cases c2:b=0
   · have s1:aP (aV AP.A) bL AP.f108L0 (aC [(3,.int .i64 0),(6,v),(7,.int .i64 2),(8,.int .i64 1)] [3,6,7,8]) h.eY=some (.normal,[(3,.int .i64 0),(6,v),(7,.int .i64 2),(8,.int .i64 2)],h.eY):=by
      simp (disch:=omega)only[go_sem,yZ,AP.f108L0,i1,l1]
     have fin:Lp AP.A [3,6,7,8] AP.f108L0 [(3,.int .i64 0),(6,v),(7,.int .i64 2),(8,.int .i64 2)] h.eY=some (.exit 0,[(3,.int .i64 0),(6,v),(7,.int .i64 2),(8,.int .i64 2),(9,.bool false)],h.eY):=by
      refine wh ?_
      simp (disch:=omega)only[go_sem,yZ,AP.f108L0]
     have lp:=wj s0 (wj s1 fin)
     refine wX (fn:=AP.f108) (h2:=h.eY) (e:=[(2,.int .i64 0)]) (vs:=[.int .i64 b]) rfl rfl rfl ?_ (by rw[c2];rfl) rfl
     clear s0 s1 fin
     simp (disch:=omega)only[go_sem,yZ,AP.f108,ln,vp,lp]
   · have s1:Lp AP.A [3,6,7,8] AP.f108L0 [(3,.int .i64 0),(6,v),(7,.int .i64 2),(8,.int .i64 1)] h.eY=some (.ret,[(2,.int .i64 b)],h.eY):=by
      refine wM ?_
      simp (disch:=omega)only[go_sem,yZ,AP.f108L0,i1,l1]
     have lp:=wj s0 s1
     refine wX (fn:=AP.f108) (h2:=h.eY) (e:=[(2,.int .i64 b)]) rfl rfl rfl ?_ rfl rfl
     clear s0 s1
     simp (disch:=omega)only[go_sem,yZ,AP.f108,ln,vp,lp]
 · rw[if_neg c1]
   have lp:Lp AP.A [3,6,7,8] AP.f108L0 [(3,.int .i64 0),(6,v),(7,.int .i64 2),(8,.int .i64 0)] h.eY=some (.ret,[(2,.int .i64 a)],h.eY):=by
    refine wM ?_
    simp (disch:=omega)only[go_sem,yZ,AP.f108L0,i0,l0]
   refine wX (fn:=AP.f108) (h2:=h.eY) (e:=[(2,.int .i64 a)]) rfl rfl rfl ?_ rfl rfl
   simp (disch:=omega)only[go_sem,yZ,AP.f108,ln,vp,lp]
def BU (a b:zO):Bool:=decide (a.yW<b.yW)||(decide (a.yW=b.yW)&&decide (a.node<b.node))
theorem MY (a b : zO) : decide (PX (Dh a.yW b.yW) (Dh a.node b.node) < 0) = BU a b := by
 unfold PX Dh BU
 by_cases c1:a.yW<b.yW
 · simp [c1]
 · by_cases c2:b.yW<a.yW
   · have:¬a.yW=b.yW:=by omega
     simp [c1,c2,this]
   · have:a.yW=b.yW:=by omega
     rw[if_neg c1,if_neg c2,if_pos rfl]
     by_cases c3:a.node<b.node
     · simp [c3,this]
     · by_cases c4:b.node<a.node
       · simp [c3,c4,this]
       · simp [c3,c4,this]
def zy (a b:zO):Option zO:=
 if zK a&&(zK b&&(a.name.data.toList==b.name.data.toList))then some {(if BU a b then b else a)with vec:=zr a.vec b.vec}else none
def zw:zO:=⟨⟨#[]⟩,false,[],0,0,0,⟨#[]⟩,0,0⟩
theorem Bq {e:zO} (h:zK e=true):Bg e.vec=true:=by
 unfold zK zI at h
 by_cases c:DT [e]=false
 · rw[if_pos c]at h;cases h
 · rw[J2]at c
   simp only[Bool.not_eq_false,yc]at c
   have:=c.2.1
   unfold Ar at this
   simp only[yc]at this
   exact this.1
theorem IK {g:Nat→Option (List AV)} {fl n:Nat} {e:zO} {v v':AV} (hv:snap g fl (n+1) true v=some v'):snap g fl (n+2) true (.agg (yL e v))=some (.agg (yL e v')):=by
 unfold snap
 simp only[yL,gX,hv]
 rfl
abbrev Z9:List AV:=[.str ⟨#[]⟩,.bool false,.aT,.int .i64 0,.int .i64 0,.int .i64 0,.str ⟨#[]⟩,.int .i64 0,.int .i64 0]
def BT (name:ByteArray) (node:Nat) (yW:Int) (text:ByteArray):zO:=⟨name,false,[0,0,0,0].set node yW,yW,node,0,text,text.size,A8 text⟩
theorem MX {l:List Int} (h:l.length=4):AM l=.aZ false (ints l) 0 4 1:=by unfold AM IJ;rw[h,if_neg (by omega)]
theorem EZ (h:H) (name text:ByteArray) (node:Nat) (yW:Int) (hn:node<4) (ht:text.size<1125899906842624):
 aV AP.A 99 [.str name,.int .i64 node,.int .i64 yW,.str text] h=some (.agg (yL (BT name node yW text) (AM ([0,0,0,0].set node yW))),h):=by
 obtain⟨h1,eh1⟩:∃g,g=h.eY.alloc (yL zw .aT):=⟨_,rfl⟩
 obtain⟨h2,eh2⟩:∃g,g=h1.alloc (ints [0,0,0,0]):=⟨_,rfl⟩
 obtain⟨h3,eh3⟩:∃g,g=h2.set (h.next+1) (ints ([0,0,0,0].set node yW)):=⟨_,rfl⟩
 obtain⟨h4,eh4⟩:∃g,g=h3.set h.next (yL (BT name node yW text) (.aI (h.next+1) 0 4 1)):=⟨_,rfl⟩
 have n0:h.eY.next=h.next:=rfl
 have n1:h1.next=h.next+1:=by rw[eh1];simp
 have f2:h2.floor=h.next:=by rw[eh2,eh1];simp
 have f3:h3.floor=h.next:=by rw[eh3];simp [f2]
 have g2:h2.get (h.next+1)=some (ints [0,0,0,0]):=by rw[eh2,yS (by omega)]
 have gz3:h3.get h.next=some (yL zw .aT):=by rw[eh3,yX (by omega),eh2,yR (by omega),eh1,yS (by simp)]
 have g3:h3.get (h.next+1)=some (ints ([0,0,0,0].set node yW)):=by rw[eh3,zc rfl,g2];rfl
 have g4:h4.get h.next=some (yL (BT name node yW text) (.aI (h.next+1) 0 4 1)):=by rw[eh4,zc rfl,gz3];rfl
 have g4':h4.get (h.next+1)=some (ints ([0,0,0,0].set node yW)):=by rw[eh4,yX (by omega),g3]
 have st3:wZ h2 (h.next+1) node 1 [.int .i64 yW] (some (ints [0,0,0,0]))=some h3:=by
  rw[xG (by omega) (by simp;omega) rfl,eh3]
  congr 2
  match node,hn with
  |0,_=>rfl
  |1,_=>rfl
  |2,_=>rfl
  |3,_=>rfl
 have st4:wZ h3 h.next 0 9 [.str name,.bool false,.aI (h.next+1) 0 4 1,.int .i64 yW,.int .i64 node,.int .i64 0,.str text,.int .i64 text.size,.int .i64 (A8 text:Nat)] (some (yL zw .aT))=some h4:=by
  rw[eh4];exact zD (by omega) rfl rfl rfl
 have e1:h.eY.alloc [.str ⟨#[]⟩,.bool false,.aT,.int .i64 0,.int .i64 0,.int .i64 0,.str ⟨#[]⟩,.int .i64 0,.int .i64 0]=h1:=eh1.symm
 have e2:h1.alloc (Iz 4 [.int .i64 0])=h2:=eh2.symm
 have kc:=HP h3 text ht
 have hlen:([0,0,0,0].set node yW:List Int).length=4:=by simp
 have o:Af 1 h4 (.aI (h.next+1) 0 4 1) 4 (ints ([0,0,0,0].set node yW)):=⟨by simp,.inr ⟨_,rfl,g4',by rw[eh4];simp;omega,by omega⟩⟩
 have s1:snap h4.get h.next 15 true (.aI (h.next+1) 0 4 1)=some (AM ([0,0,0,0].set node yW)):=by
  have:=o.Aj (fl:=h.next) (m:=13) (t:=true) (by rw[eh4];simp;omega)
  rw[this];unfold AM;rw[hlen]
 have body:aP (aV AP.A) bL AP.f99.body (params 0 [.str name,.int .i64 node,.int .i64 yW,.str text]) h.eY=some (.ret,[(8,.aH h.next 0)],h4):=by
  clear o s1 g4 g4' g3
  have it:((node:Nat):Int).toNat=node:=by omega
  simp (disch:=omega)only[go_sem,yZ,AP.f99,n0,e1,n1,e2,it,g2,st3,kc,gz3,st4]
 refine wX (fn:=AP.f99) (h2:=h4) (e:=[(8,.aH h.next 0)]) (vs:=[.agg (yL (BT name node yW text) (.aI (h.next+1) 0 4 1))]) rfl rfl rfl body ?_ ?_
 · simp only[AP.f99,di,pG,pf,ue,g4,v7];rfl
 · exact IK s1
theorem EM (h : H) (hf : h.floor ≤ h.next) (e : zO) (v : AV) (hv : v.sc = true) (ok : Av h (e, v)) (hb : e.vec.length < 20000000000000) :
 ∃h' v',aV AP.A 92 [.agg (yL e v)] h=some (.agg (yL e v'),h')∧v'=(if e.vec=[]then .aI (h.next+2) 0 0 1 else .aI (h.next+3) 0 e.vec.length 1)∧Rd h' v' (ints e.vec)∧h'.floor=h.floor∧h.next+3≤h'.next∧Ext h h'∧(0<e.vec.length→h'.get (h.next+3)=some (ints e.vec)):=by
 obtain⟨h1,eh1⟩:∃g,g=h.alloc (yL e v):=⟨_,rfl⟩
 obtain⟨h2,eh2⟩:∃g,g=h1.alloc (yL zw .aT):=⟨_,rfl⟩
 have n1:h1.next=h.next+1:=by rw[eh1];simp
 have n2:h2.next=h.next+2:=by rw[eh2];simp [n1]
 have f2:h2.floor=h.floor:=by rw[eh2,eh1];simp
 have x2:Ext h h2:=by rw[eh2,eh1];exact((Ext.refl h).alloc _).alloc _
 have ga2:h2.get h.next=some (yL e v):=by rw[eh2,yR (by omega),eh1,yS rfl]
 have gz2:h2.get (h.next+1)=some (yL zw .aT):=by rw[eh2,yS (by omega)]
 have r2:=(ok.vec.mono fun i c q=>x2 i c q).M7
 rw[sD]at r2
 obtain⟨v',h3,ap,hv',hcl,hsc,hrd,g3,f3,n3,hget,x3⟩:∃v' h3,mV (h2.alloc []) 1 8 (.aI h2.next 0 0 1) v=some (v',h3)∧v'=(if e.vec=[]then .aI (h.next+2) 0 0 1 else .aI (h.next+3) 0 e.vec.length 1)∧v'.cells=[v']∧v'.sc=true∧Rd h3 v' (ints e.vec)∧
  (∀i,i<h.next+2→h3.get i=h2.get i)∧h3.floor=h.floor∧h.next+3≤h3.next∧(0<e.vec.length→h3.get (h.next+3)=some (ints e.vec))∧Ext h h3:=by
  by_cases c:e.vec=[]
  · rw[c]at r2
    have:=FY (z:=8) r2
    refine⟨_,_,this,by rw[if_pos c,n2],rfl,rfl, ?_,fun i hi=> ?_,by simp [f2],by simp [n2],fun q=>by rw[c]at q;simp at q,x2.alloc _⟩
    · rw[c]
      refine⟨?_,fun _=>by simp⟩
      simp only[aW,if_true]
      rw[yS (by omega)];rfl
    · rw[yR (by omega)]
  · have hp:0<e.vec.length:=List.length_pos_iff.2 c
    have:=DZ r2 (by omega) (by omega) hp (z:=8) (by simp [roomy];omega) (Ba e.vec)
    refine⟨_,_,this,by rw[if_neg c,n2],rfl,rfl, ?_,fun i hi=> ?_,by simp [f2],by simp [n2],fun _=> ?_,fun i d q=> ?_⟩
    · refine⟨?_,fun _=>by simp⟩
      simp only[aW,if_true]
      rw[yS (by simp),xX,if_pos (by simp),QX,yC (by simp),sD]
    · rw[yR (by simp;omega),H.fg,if_neg (by omega),yR (by omega)]
    · rw[yS (by simp [n2])]
    · have:=h.lt _ _ q
      rw[yR (by simp;omega),H.fg,if_neg (by omega),yR (by omega)];exact x2 i d q
 obtain⟨h4,eh4⟩:∃g,g=h3.set h.next (yL e v'):=⟨_,rfl⟩
 obtain⟨h5,eh5⟩:∃g,g=h4.set (h.next+1) (yL e v'):=⟨_,rfl⟩
 have ga3:h3.get h.next=some (yL e v):=by rw[g3 _ (by omega),ga2]
 have gz3:h3.get (h.next+1)=some (yL zw .aT):=by rw[g3 _ (by omega),gz2]
 have ga4:h4.get h.next=some (yL e v'):=by rw[eh4,zc rfl,ga3];rfl
 have gz4:h4.get (h.next+1)=some (yL zw .aT):=by rw[eh4,yX (by omega),gz3]
 have gz5:h5.get (h.next+1)=some (yL e v'):=by rw[eh5,zc rfl,gz4];rfl
 have st4:wZ h3 h.next 2 1 [v'] (some (yL e v))=some h4:=by rw[xG (by omega) (by show 2<9;omega) hsc,eh4];rfl
 have st5:wZ h4 (h.next+1) 0 9 (yL e v') (some (yL zw .aT))=some h5:=by
  rw[eh5];exact zD (by rw[eh4];simp;omega) rfl rfl (by simp [yL,hsc])
 have e1:h.alloc (yL e v)=h1:=eh1.symm
 have e2:h1.alloc [.str ⟨#[]⟩,.bool false,.aT,.int .i64 0,.int .i64 0,.int .i64 0,.str ⟨#[]⟩,.int .i64 0,.int .i64 0]=h2:=eh2.symm
 have rr:jj true 9 (yL e v') 0=some (.agg (yL e v')):=rfl
 have lE:(yL e v).length=9:=rfl
 have sE:AV.aG (yL e v)=true:=by simp [yL,hv]
 have c2:(yL e v)[2]?=some v:=rfl
 have hg:∀i,i≠h.next→i≠h.next+1→h5.get i=h3.get i:=fun i q1 q2=>by rw[eh5,yX q2,eh4,yX q1]
 have x5:Ext h3 h5→True:=fun _=>trivial
 refine⟨h5,v',wF (fn:=AP.f92) (h2:=h5) (e:=[(2,.aH (h.next+1) 0)]) (vs:=[.agg (yL e v')]) rfl rfl rfl ?_ ?_,hv', ?_,by rw[eh5,eh4];simp [f3],by rw[eh5,eh4];simpa using n3, ?_,fun q=>by rw[hg _ (by omega) (by omega)];exact hget q⟩
 · clear x5 hg x2 x3 g3 hrd hget r2 ok
   generalize yL e v=A at *
   generalize yL e v'=B at *
   simp (disch:=omega)only[go_sem,yZ,AP.f92,lE,sE,e1,n1,e2,ga2,yR,c2,ap,ga3,hcl,st4,ga4,rr,gz4,st5]
 · simp only[AP.f92,di,pG,pf,ue,gz5,v7];rfl
 · obtain⟨q1,q2⟩:=hrd
   refine⟨?_,q2⟩
   rw[←q1]
   rw[hv']
   by_cases c:e.vec=[]
   · rw[if_pos c];simp only[aW,if_true];rw[hg _ (by omega) (by omega)]
   · rw[if_neg c];simp only[aW,if_true];rw[hg _ (by omega) (by omega)]
 · intro i d q
   have:=h.lt _ _ q
   rw[hg _ (by omega) (by omega)];exact x3 i d q
theorem GY {v w : AV} {a b : List Int} (hab : a.length = b.length) (hl : a.length < 1125899906842624) (h : H) (ra : Rd h v (ints a)) (rb : Rd h w (ints b)) : ∀ (p q r : List Int) (p' : List Int), a = p ++ q → b = p' ++ r → p.length = p'.length →
 (∃e',Lp AP.A [0,1,5] AP.f106L0 [(0,v),(1,w),(5,.int .i64 p.length)] h=some (.exit 0,e',h)∧decide (q=r)=true)∨
 (∃e',Lp AP.A [0,1,5] AP.f106L0 [(0,v),(1,w),(5,.int .i64 p.length)] h=some (.ret,e',h)∧look e' 4=.bool false∧decide (q=r)=false)
 | p, [], r, p', hp, hq, hpp => by
   have hr:r=[]:=List.eq_nil_of_length_eq_zero (by rw[hp,hq]at hab;simp at hab;omega)
   left
   have ln:=ra.len
   rw[sD]at ln
   simp only[I]at ln
   rw[QT]at hp
   refine⟨[(0,v),(1,w),(5,.int .i64 p.length),(14,.bool false)],wh ?_,by rw[hr];rfl⟩
   rw[hp]at ln
   clear hab hl ra rb
   simp (disch:=omega)only[go_sem,yZ,AP.f106L0,ln]
 | p, x :: q, [], p', hp, hq, hpp => by
   exfalso
   rw[hp,hq]at hab;simp at hab;omega
 | p, x :: q, y :: r, p', hp, hq, hpp => by
   have ln:=ra.len
   rw[sD]at ln
   simp only[I]at ln
   have hlen:a.length=p.length+(q.length+1):=by rw[hp];simp
   have hx:a[p.length]?=some x:=by rw[hp];simp
   have hy:b[p.length]?=some y:=by rw[hpp,hq];simp
   obtain⟨ad,a1,a2⟩:=ra.Bb
   obtain⟨bd,b1,b2⟩:=rb.Bb
   have i1:=a1 p.length ⟨by omega,by omega⟩
   have i2:=b1 p.length ⟨by omega,by omega⟩
   have l1:=a2 h (Ext.refl h) _ _ hx
   have l2:=b2 h (Ext.refl h) _ _ hy
   have w1:(((p++[x]).length:Nat):Int)=(p.length:Int)+1:=by simp
   have ih:=GY hab hl h ra rb (p++[x]) q r (p'++[y]) (by rw[hp];simp) (by rw[hq];simp) (by simp;omega)
   rw[w1]at ih
   clear a1 a2 b1 b2 ra rb w1
   by_cases c:x=y
   · have step:aP (aV AP.A) bL AP.f106L0 (aC [(0,v),(1,w),(5,.int .i64 p.length)] [0,1,5]) h=some (.normal,[(0,v),(1,w),(5,.int .i64 ((p.length:Int)+1))],h):=by
      clear ih hp hq
      simp (disch:=omega)only[go_sem,yZ,AP.f106L0,ln,i1,i2,l1,l2]
     have e:decide (x::q=y::r)=decide (q=r):=by simp [c]
     rw[e]
     rcases ih with ⟨e',r1,r2⟩|⟨e',r1,r2,r3⟩
     · exact .inl ⟨e',wj step r1,r2⟩
     · exact .inr ⟨e',wj step r1,r2,r3⟩
   · right
     refine⟨[(4,.bool false)],wM ?_,rfl,by simp [c]⟩
     clear ih hp hq
     simp (disch:=omega)only[go_sem,yZ,AP.f106L0,ln,i1,i2,l1,l2]
theorem GV (h:H) (v w:AV) (a b:List Int) (ra:Rd h v (ints a)) (rb:Rd h w (ints b)) (hl:a.length<1125899906842624):aV AP.A 106 [v,w] h=some (.bool (decide (a=b)),h):=by
 have ra':=ra.mono (yV h)
 have rb':=rb.mono (yV h)
 have la:=ra'.len
 have lb:=rb'.len
 rw[sD]at la lb
 simp only[I]at la lb
 by_cases c:a.length=b.length
 · rcases GY c hl h.eY ra' rb' [] a b [] rfl rfl rfl with ⟨e',r1,r2⟩|⟨e',r1,r2,r3⟩
   · have r1':Lp AP.A [0,1,5] AP.f106L0 [(0,v),(1,w),(5,.int .i64 0)] h.eY=some (.exit 0,e',h.eY):=r1
     clear r1
     rw[r2]
     refine wX (fn:=AP.f106) (h2:=h.eY) (e:=[(4,.bool true)]) rfl rfl rfl ?_ rfl rfl
     simp (disch:=omega)only[go_sem,yZ,AP.f106,la,lb,vp,r1']
   · have r1':Lp AP.A [0,1,5] AP.f106L0 [(0,v),(1,w),(5,.int .i64 0)] h.eY=some (.ret,e',h.eY):=r1
     clear r1
     rw[r3]
     refine wX (fn:=AP.f106) (h2:=h.eY) (e:=e') (vs:=[.bool false]) rfl rfl rfl ?_ (by simp only[AP.f106,di,pG,r2];rfl) rfl
     simp (disch:=omega)only[go_sem,yZ,AP.f106,la,lb,vp,r1']
 · have e:decide (a=b)=false:=by rw[decide_eq_false_iff_not];intro q;exact c (by rw[q])
   rw[e]
   refine wX (fn:=AP.f106) (h2:=h.eY) (e:=[(4,.bool false)]) rfl rfl rfl ?_ rfl rfl
   simp (disch:=omega)only[go_sem,yZ,AP.f106,la,lb]
def CG (a b:zO):Bool:=(a.name.data.toList==b.name.data.toList)&&((a.gone==b.gone)&&(decide (a.vec=b.vec)&&(decide (a.yW=b.yW)&&(decide (a.node=b.node)&&(decide (a.method=b.method)&&((a.packed.data.toList==b.packed.data.toList)&&(decide (a.size=b.size)&&decide (a.DQ=b.DQ))))))))
theorem DI (a b:zO):CG a b=true↔a=b:=by
 have q:∀x y:ByteArray,(x.data.toList==y.data.toList)=true↔x=y:=fun x y=>by
  constructor
  · intro e;exact ByteArray.ext (Array.toList_inj.1 (eq_of_beq e))
  · rintro rfl;exact DN _
 obtain⟨a1,a2,a3,a4,a5,a6,a7,a8,a9⟩:=a
 obtain⟨b1,b2,b3,b4,b5,b6,b7,b8,b9⟩:=b
 simp only[CG,yc,QW,q,beq_iff_eq,zO.mk.injEq]
theorem C6 (h : H) (a b : zO) (v w : AV) (sa : v.sc = true) (sb : w.sc = true) (ra : Av h (a, v)) (rb : Av h (b, w)) : aV AP.A 98 [.agg (yL a v), .agg (yL b w)] h = some (.bool (CG a b), h) := by
 obtain⟨h1,eh1⟩:∃g,g=h.eY.alloc (yL a v):=⟨_,rfl⟩
 obtain⟨h2,eh2⟩:∃g,g=h1.alloc (yL b w):=⟨_,rfl⟩
 have x1:Ext h h1:=fun i c q=>by rw[eh1];exact((Ext.refl h.eY).alloc _) i c q
 have x2:Ext h h2:=by rw[eh2];exact x1.alloc _
 have n0:h.eY.next=h.next:=rfl
 have n1:h1.next=h.next+1:=by rw[eh1];simp
 have ga:h2.get h.next=some (yL a v):=by rw[eh2,yR (by omega),eh1,yS (by simp)]
 have gb:h2.get (h.next+1)=some (yL b w):=by rw[eh2,yS (by omega)]
 have k1:=GV h2 v w a.vec b.vec (ra.mono x2).vec (rb.mono x2).vec ra.vl
 have s1:bH .eql (.str a.name) (.str b.name)=some (.bool (a.name.data.toList==b.name.data.toList)):=zS _ _
 have s2:bH .eql (.str a.packed) (.str b.packed)=some (.bool (a.packed.data.toList==b.packed.data.toList)):=zS _ _
 have e1:h.eY.alloc (yL a v)=h1:=eh1.symm
 have e2:h1.alloc (yL b w)=h2:=eh2.symm
 refine wX (fn:=AP.f98) (h2:=h2) (e:=[(4,.bool (CG a b))]) rfl rfl rfl ?_ rfl rfl
 unfold CG
 clear x1 x2 ra rb eh1 eh2
 generalize (a.name.data.toList==b.name.data.toList)=B1 at *
 generalize (a.packed.data.toList==b.packed.data.toList)=B2 at *
 obtain⟨B3,hB3⟩:∃B,(a.gone==b.gone)=B:=⟨_,rfl⟩
 rw[hB3]
 generalize decide (a.vec=b.vec)=B4 at *
 simp only[yL]at *
 cases B1 with
 |false=>simp (disch:=omega)only[go_sem,yZ,AP.f98,sa,sb,n0,e1,n1,e2,ga,gb,s1,s2,hB3,k1]
 | true =>
   cases B3 with
   |false=>simp (disch:=omega)only[go_sem,yZ,AP.f98,sa,sb,n0,e1,n1,e2,ga,gb,s1,s2,hB3,k1]
   | true =>
     cases B4 with
     |false=>simp (disch:=omega)only[go_sem,yZ,AP.f98,sa,sb,n0,e1,n1,e2,ga,gb,s1,s2,hB3,k1]
     | true =>
       by_cases c3:a.yW=b.yW
       · by_cases c4:a.node=b.node
         · by_cases c5:a.method=b.method
           · cases B2 with
             |false=>simp (disch:=omega)only[go_sem,yZ,AP.f98,sa,sb,n0,e1,n1,e2,ga,gb,s1,s2,hB3,k1]
             | true =>
               by_cases c7:a.size=b.size
               · by_cases c8:a.DQ=b.DQ
                 · simp (disch:=omega)only[go_sem,yZ,AP.f98,sa,sb,n0,e1,n1,e2,ga,gb,s1,s2,hB3,k1]
                 · simp (disch:=omega)only[go_sem,yZ,AP.f98,sa,sb,n0,e1,n1,e2,ga,gb,s1,s2,hB3,k1]
               · simp (disch:=omega)only[go_sem,yZ,AP.f98,sa,sb,n0,e1,n1,e2,ga,gb,s1,s2,hB3,k1]
           · simp (disch:=omega)only[go_sem,yZ,AP.f98,sa,sb,n0,e1,n1,e2,ga,gb,s1,s2,hB3,k1]
         · simp (disch:=omega)only[go_sem,yZ,AP.f98,sa,sb,n0,e1,n1,e2,ga,gb,s1,s2,hB3,k1]
       · simp (disch:=omega)only[go_sem,yZ,AP.f98,sa,sb,n0,e1,n1,e2,ga,gb,s1,s2,hB3,k1]
def nA:ByteArray:=⟨#[97]⟩
def nB:ByteArray:=⟨#[98]⟩
def I8:ByteArray:=⟨#[104,105]⟩
def Na:ByteArray:=⟨#[104,111]⟩
def eA:zO:=BT nA 0 1 I8
def eB:zO:=BT nA 2 1 Na
def eC:zO:=BT nB 0 1 ⟨#[]⟩
def eG:zO:=⟨nA,true,[9,0,0,0],9,0,0,⟨#[]⟩,0,0⟩
theorem QI:zI eA=some I8:=by decide+kernel
theorem QJ:zI eG=some ⟨#[]⟩:=by decide+kernel
theorem QD:zK eA=true:=by decide+kernel
theorem QE:zK eB=true:=by decide+kernel
theorem QF:zK {eA with DQ:=(A8 I8^^^1:Nat)}=false:=by decide+kernel
def eM:zO:={eB with vec:=[1,0,1,0]}
theorem QA:zy eA eB=some eM:=by
 unfold zy
 rw[QD,QE]
 rfl
theorem QB:zy eA eC=none:=by
 unfold zy
 have:(eA.name.data.toList==eC.name.data.toList)=false:=by decide
 rw[this,QS,QS];rfl
theorem Hb {a:Nat} (ha:a<4294967296):bits .xor .i64 (a:Int) 1=((a^^^1:Nat):Int):=by
 have h3:a^^^1<4294967296:=A5 ha (by omega)
 show IntKind.wrap .i64 (((BitVec.ofInt 64 (a:Int)^^^BitVec.ofInt 64 ((1:Nat):Int)).toNat:Nat):Int)=_
 rw[BitVec.toNat_xor,zM 64 a (by omega),zM 64 1 (by omega)]
 exact yJ (by omega)
theorem Av.au {h:H} {e:zO} (hv:e.vec.length=4) (nl:e.name.size<1000000) (pl:e.packed.size<1000000):Av h (e,AM e.vec):=
 ⟨by rw[show(e,AM e.vec).2=AM e.vec from rfl,MX hv];have:=AJ h e.vec;unfold zj at this;rw[hv]at this;exact this,by show e.vec.length<_;omega,by show e.name.size<_;omega,by show e.packed.size<_;omega⟩
theorem Rd.obj {h:H} {p n:Nat} {l:List Int} (hp:h.get p=some (ints l)) (hl:l.length=n):Rd h (.aI p 0 n 1) (ints l):=
 ⟨by subst hl;simp only[aW,if_true,hp,xX];rw[if_pos (by simp),QX,yC (by simp),sD],fun s e=>by cases e⟩
theorem Av.obj {h:H} {e:zO} {p n:Nat} {l:List Int} (hp:h.get p=some (ints l)) (hl:l.length=n) (he:e.vec=l:=by rfl) (nl:e.name.size<1125899906842624) (pl:e.packed.size<1125899906842624) (hn:n<1000000:=by decide):Av h (e,.aI p 0 n 1):=
 ⟨by show Rd h _ (ints e.vec);rw[he];exact Rd.obj hp hl,by show e.vec.length<_;rw[he];omega,by show e.name.size<_;omega,by show e.packed.size<_;omega⟩
theorem Jq (t:ByteArray):A8 t<4294967296:=FA 0 t
theorem AQ (l:List Int):(AM l).sc=true:=by unfold AM IJ;split<;>rfl
theorem zZ {e:zO} {v:AV} (h:v.sc=true):AV.aG (yL e v)=true:=by simp [yL,h]
theorem QG:DX eA=.cf [.str ⟨#[104,105]⟩,.int .i64 0]:=by unfold DX;rw[QI];rfl
theorem QH:DX eG=.cf [.str ⟨#[]⟩,.int .i64 1501]:=by unfold DX;rw[QJ];rfl
def eD:zO:={eA with DQ:=(A8 I8^^^1:Nat)}
theorem Jp (h:H) (hf:h.floor≤h.next) (e:zO) (v:AV) (hv:v.sc=true) (hb:e.vec.length<1000000) (r:aW ((h.alloc (yL e v)).alloc Z9|>.alloc []) 1 v=some (e.vec.length,ints e.vec)) (h0:0<e.vec.length):
 aV AP.A 92 [.agg (yL e v)] h=some (.agg (yL e (.aI (h.next+1+1+1) 0 e.vec.length 1)),((((((h.alloc (yL e v)).alloc Z9).alloc []).del (h.next+1+1)).alloc (ints e.vec)).set h.next (yL e (.aI (h.next+1+1+1) 0 e.vec.length 1))).set (h.next+1) (yL e (.aI (h.next+1+1+1) 0 e.vec.length 1))):=by
 have cA:AV.aG (yL e v)=true:=zZ hv
 have lA:(yL e v).length=9:=rfl
 have gA:(yL e v)[2]?=some v:=rfl
 have fA:setFrom (yL e v) 2 [.aI (h.next+1+1+1) 0 e.vec.length 1]=yL e (.aI (h.next+1+1+1) 0 e.vec.length 1):=rfl
 have tA:List.take 9 (yL e (.aI (h.next+1+1+1) 0 e.vec.length 1))=yL e (.aI (h.next+1+1+1) 0 e.vec.length 1):=rfl
 have lB:(yL e (.aI (h.next+1+1+1) 0 e.vec.length 1)).length=9:=rfl
 have cB:AV.aG (yL e (.aI (h.next+1+1+1) 0 e.vec.length 1))=true:=rfl
 have fB:setFrom Z9 0 (yL e (.aI (h.next+1+1+1) 0 e.vec.length 1))=yL e (.aI (h.next+1+1+1) 0 e.vec.length 1):=rfl
 have la:=Ba e.vec
 have ll:=sD e.vec
 refine wF (fn:=AP.f92) (e:=[(2,.aH (h.next+1) 0)]) (vs:=[.agg (yL e (.aI (h.next+1+1+1) 0 e.vec.length 1))]) rfl rfl rfl ?_ ?_
 · generalize yL e v=A at *
   generalize hB:yL e (.aI (h.next+1+1+1) 0 e.vec.length 1)=B at *
   generalize e.vec.length=n at *
   generalize ints e.vec=L at *
   simp (disch:=first|omega|(simp only[HC,QR,QU,ym,Nat.reduceAdd];first|done|omega|fail)|(simp (disch:=first|omega|(simp only[HC,QR,QU,ym,Nat.reduceAdd];first|done|omega|fail)|fail)only[HC,PZ,QN,QR,QU,ym,Nat.reduceAdd];done)|fail)only[go_sem,yZ,PY,AP.f92,lA,cA,gA,fA,tA,lB,cB,fB,r,la,ll]
 · simp only[AP.f92,di,pG,pf]
   generalize hB:yL e (.aI (h.next+1+1+1) 0 e.vec.length 1)=B at *
   simp (disch:=first|omega|(simp only[HC,QR,QU,ym,Nat.reduceAdd];first|done|omega|fail)|(simp (disch:=first|omega|(simp only[HC,QR,QU,ym,Nat.reduceAdd];first|done|omega|fail)|fail)only[HC,PZ,QN,QR,QU,ym,Nat.reduceAdd];done)|fail)only[go_sem,yZ,PY,tA,lB]
   rfl
def Fx:Ty:=.int .i64
def J0:Ty:=.sl Fx 1 8
def F7:Ty:=.st [.str,.bool,J0,Fx,Fx,Fx,.str,Fx,Fx]
theorem CI {B:Nat} {as:List AV} (h:Sh B Fx as):∃n,as=[.int .i64 n]∧(-9223372036854775808≤n∧n<9223372036854775808):=by
 cases h with
 |int h=>exact⟨_,rfl,wC h⟩
theorem JN {B:Nat} {as:List AV} (h:Sh B .bool as):∃b,as=[.bool b]:=by
 cases h with
 |bool b=>exact⟨b,rfl⟩
theorem IG {as:List AV} (h:Sh reachBytes .str as):∃s:ByteArray,as=[.str s]∧s.size<140737488355328:=by
 cases h with
 |str h=>exact⟨_,rfl,w8 h⟩
theorem JP {B:Nat} {as:List AV} {ess:List (List AV)} (h:∀es,es∈ess→Sh B Fx es):∃l:List Int,l.length=ess.length∧ess.flatten=ints l:=by
 induction ess with
 |nil=>exact⟨[],rfl,rfl⟩
 | cons x ess ih =>
   obtain⟨n,rfl,_⟩:=CI (h x (by simp))
   obtain⟨l,h1,h2⟩:=ih fun es q=>h es (by simp [q])
   exact⟨n::l,by simp [h1],by rw[List.flatten_cons,h2];rfl⟩
theorem JO {as:List AV} (h:Sh reachBytes J0 as):∃(v:AV) (l:List Int),as=[v]∧v.sc=true∧(∀g,Rd g v (ints l))∧l.length<20000000000000:=by
 cases h with
 |aT=>exact⟨.aT,[],rfl,rfl,fun g=>⟨rfl,fun s e=>by cases e⟩,by simp⟩
 | aZ ess h hz hb =>
   obtain⟨l,h1,h2⟩:=JP (as:=[]) h
   rw[h2,←h1]
   refine⟨_,l,rfl,rfl,fun g=> ?_, ?_⟩
   · have:=AJ g l
     unfold zj at this;exact this
   · rw[h1];unfold reachBytes at hb;omega
theorem Ac {B:Nat} {f:Ty} {fs:List Ty} {as:List AV} (h:jY B (f::fs) as):∃a r,as=a++r∧Sh B f a∧jY B fs r:=by
 cases h with
 |cons h hr=>exact⟨_,_,rfl,h,hr⟩
theorem JM {B:Nat} {as:List AV} (h:jY B [] as):as=[]:=by
 cases h;rfl
theorem PR {B:Nat} {fs:List Ty} {as:List AV} (h:Sh B (.st fs) as):jY B fs as:=by
 cases h with
 |st h=>exact h
theorem IF {as:List AV} (h:Sh reachBytes F7 as):∃(e:zO) (v:AV),as=yL e v∧v.sc=true∧(∀g,Av g (e,v))∧e.vec.length<20000000000000:=by
 obtain⟨a1,r1,rfl,s1,h1⟩:=Ac (PR h)
 obtain⟨a2,r2,rfl,s2,h2⟩:=Ac h1
 obtain⟨a3,r3,rfl,s3,h3⟩:=Ac h2
 obtain⟨a4,r4,rfl,s4,h4⟩:=Ac h3
 obtain⟨a5,r5,rfl,s5,h5⟩:=Ac h4
 obtain⟨a6,r6,rfl,s6,h6⟩:=Ac h5
 obtain⟨a7,r7,rfl,s7,h7⟩:=Ac h6
 obtain⟨a8,r8,rfl,s8,h8⟩:=Ac h7
 obtain⟨a9,r9,rfl,s9,h9⟩:=Ac h8
 obtain rfl:=JM h9
 obtain⟨n,rfl,z1⟩:=IG s1
 obtain⟨g,rfl⟩:=JN s2
 obtain⟨v,l,rfl,hv,rd,z3⟩:=JO s3
 obtain⟨st,rfl,_⟩:=CI s4
 obtain⟨no,rfl,_⟩:=CI s5
 obtain⟨me,rfl,_⟩:=CI s6
 obtain⟨pa,rfl,z7⟩:=IG s7
 obtain⟨si,rfl,_⟩:=CI s8
 obtain⟨cr,rfl,_⟩:=CI s9
 exact⟨⟨n,g,l,st,no,me,pa,si,cr⟩,v,rfl,hv,fun g=>⟨rd g,by show l.length<_;omega,by show n.size<_;omega,by show pa.size<_;omega⟩,z3⟩
theorem Qm {P:Ty×List AV→Prop} {a b:Ty} {r:List (Ty×List AV)} (h:r.map (·.1)=[a,b]) (hp:∀x∈r,P x):∃x y,r=[(a,x),(b,y)]∧P (a,x)∧P (b,y):=by
 match r,h with
 |[(a',x),(b',y)],h=>simp at h;obtain⟨rfl,rfl⟩:=h;exact⟨x,y,rfl,hp _ (by simp),hp _ (by simp)⟩
end Ab
