/- Part C2. -/
import Derived.Test.YtlnpoabdcheleaaGreatDoorC1
set_option linter.unusedSimpArgs false
set_option linter.unusedVariables false
namespace Ab
open Go
theorem DK {c:FC} {S:SS} {h:H} {ov:AV} (st:Ft c S h ov) (a b:AV) (n d i:Nat) (hs:n≤i∨(i<n∧S.e≠0)):
 ∃e',Lp AP.A [0,1,2,10,14,15] AP.f20L0 [(0,.aH c.f 0),(1,a),(2,b),(10,I n),(14,I d),(15,I i)] h=some (.exit 2,e',h)∧look e' 0=.aH c.f 0∧look e' 1=a∧look e' 2=b:=by
 have gf:=st.gf
 refine⟨[(0,.aH c.f 0),(1,a),(2,b),(10,I n),(14,I d),(15,I i),(107,.bool false)],vW ?_,rfl,rfl,rfl⟩
 rcases hs with hn|⟨hn,he⟩
 · have c1:¬(i:Int)<n:=by omega
   simp only[I]at *
   simp only[AP.f20L0,go_sem,acL c1]
 · have c1:(i:Int)<n:=by omega
   have c2:=wU he
   simp only[I]at *
   simp only[AP.f20L0,go_sem,acO c1,gf,c2]
theorem HX {c : FC} (a b : AV) (d : Nat) (hd : 0 < d) (n : Nat) (hn : n ≤ 65535) : ∀ (m i : Nat) (S : SS) (h : H) (ov : AV), i + m = n → Ft c S h ov → S.e = 0 → d ≤ S.out.length →
 ∃ e' h' ov' S', Lp AP.A [0, 1, 2, 10, 14, 15] AP.f20L0 [(0, .aH c.f 0), (1, a), (2, b), (10, I n), (14, I d), (15, I i)] h = some (.exit 2, e', h') ∧ look e' 0 = .aH c.f 0 ∧ look e' 1 = a ∧ look e' 2 = b ∧ Ft c S' h' ov' ∧ FF c h ov h' ov' ∧ match CW c.most d m S.out with
   | .ok o=>S'={S with out:=o}
   | .error k=>S'.e=k∧k≠0
 | 0, i, S, h, ov, hm, st, he, hl => by
   obtain⟨e',q,q2⟩:=DK st a b n d i (.inl (by omega))
   exact⟨e',h,ov,S,q,q2.1,q2.2.1,q2.2.2,st,FF.refl _ _ _,by simp only[CW]⟩
 | m + 1, i, S, h, ov, hm, st, he, hl => by
   have gf:=st.gf
   have hol:=st.ol
   have hml:=st.ml
   have ln:=st.own.len
   rw[Bw]at ln
   have c1:(i:Int)<n:=by omega
   have w1:IntKind.wrap .i64 ((i:Int)+1)=((i+1:Nat):Int):=yB (n:=i+1) (by omega)
   have w2:IntKind.wrap .i64 ((S.out.length:Int)-d)=((S.out.length-d:Nat):Int):=by rw[show(S.out.length:Int)-d=((S.out.length-d:Nat):Int)by omega];exact yB (by omega)
   have hb:=Ol (l:=S.out) (i:=S.out.length-d) (by omega)
   obtain⟨id,i1,i2,i3⟩:=st.own.elem hb
   obtain⟨h2,ov2,S2,p1,p2,p3,p4⟩:=NT st he (S.out.getD (S.out.length-d) 0)
   have step:aP (aV AP.A) bL AP.f20L0 (aC [(0,.aH c.f 0),(1,a),(2,b),(10,I n),(14,I d),(15,I i)] [0,1,2,10,14,15]) h=some (.normal,[(0,.aH c.f 0),(1,a),(2,b),(10,I n),(14,I d),(15,I (i+1:Nat))],h2):=by
    clear i1
    rw[he]at gf
    simp only[I]at *
    simp only[AP.f20L0,go_sem,acO c1,gf,ln,w2,i2,i3,hb,p1,w1]
   rw[CW]
   by_cases hm':c.most≤S.out.length
   · rw[if_pos hm']at p4 ⊢
     have he2:S2.e=701:=by rw[p4]
     have hs:n≤i+1∨(i+1<n∧S2.e≠0):=by
      by_cases q:i+1<n
      · exact .inr ⟨q,by rw[he2];decide⟩
      · exact .inl (by omega)
     obtain⟨e',q,q2⟩:=DK p2 a b n d (i+1) hs
     exact⟨e',h2,ov2,_,vX step q,q2.1,q2.2.1,q2.2.2,p2,p3,he2,by decide⟩
   · rw[if_neg hm']at p4 ⊢
     subst p4
     obtain⟨e',h',ov',S',q1,q2,q3,q4,q5,q6,q7⟩:=HX a b d hd n hn m (i+1) _ h2 ov2 (by omega) p2 rfl (by simp;omega)
     refine⟨e',h',ov',S',vX step q1,q2,q3,q4,q5,p3.trans q6, ?_⟩
     dsimp only at q7 ⊢
     rw[he]
     exact q7
theorem CY {c:FC} {S:SS} {h:H} {ov:AV} (st:Ft c S h ov) (a b:AV) (hs:S.e≠0):
 ∃e',Lp AP.A [0,1,2] AP.f20L1 [(0,.aH c.f 0),(1,a),(2,b)] h=some (.exit 0,e',h):=by
 have gf:=st.gf
 refine⟨[(0,.aH c.f 0),(1,a),(2,b),(20,.bool false)],vW ?_⟩
 have c2:=wU hs
 simp only[I]at *
 simp only[AP.f20L1,go_sem,gf,c2]
theorem Ea {c : FC} (ll dl : List Int) (hll : ll.length < 1000) (hdl : dl.length < 1000) : ∀ (k : Nat) (S : SS) (h : H) (ov : AV), Ft c S h ov → S.e = 0 → 8 * c.text.size < S.at_ + k →
 ∃e' h' ov' S',(Lp AP.A [0,1,2] AP.f20L1 [(0,.aH c.f 0),(1,yT ll),(2,yT dl)] h=some (.ret,e',h')∨Lp AP.A [0,1,2] AP.f20L1 [(0,.aH c.f 0),(1,yT ll),(2,yT dl)] h=some (.exit 0,e',h'))∧Ft c S' h' ov'∧FF c h ov h' ov'∧Fin (Ak c.text c.most ll dl k S.at_ S.out) S'
 |0,S,h,ov,st,he,hk=>by have:=st.Av;omega
 | k + 1, S, h, ov, st, he, hk => by
   have gf:=st.gf
   rw[he]at gf
   obtain⟨h1,S1,z,s1,s2,s3,s4⟩:=GF ll hll st he
   have gf1:=s2.gf
   rw[Ak]
   cases hz:Bm c.text ll 15 1 0 S.at_ with
   | none =>
     rw[hz]at s4
     obtain⟨s4,s5⟩:=s4
     have ce:(S1.e !=0)=true:=wX (by rw[s4];decide)
     refine⟨[(0,.aH c.f 0),(1,yT ll),(2,yT dl),(6,I z),(32,.bool true)],h1,ov,S1,.inl (wD ?_),s2,s3,s4,by decide⟩
     simp only[I]at *
     simp only[AP.f20L1,go_sem,gf,s1,gf1,ce]
   | some zp =>
     obtain⟨z2,p1⟩:=zp
     rw[hz]at s4
     obtain⟨s4,s5⟩:=s4
     subst s5 s4
     dsimp only at gf1
     rw[he]at gf1
     have zb:=B6 hz
     obtain⟨y,hy⟩:∃n:Nat,z=n:=acS zb.1
     subst hy
     dsimp only
     by_cases c1:(y:Int)<256
     · rw[if_pos c1]
       have w1:IntKind.wrap .u8 (y:Int)=y:=wrap_u8 (by omega)
       have c256:((y:Int)==256)=false:=wU (by omega)
       obtain⟨h2,ov2,S2,p1',p2',p3',p4'⟩:=NT s2 he y
       have step:aP (aV AP.A) bL AP.f20L1 (aC [(0,.aH c.f 0),(1,yT ll),(2,yT dl)] [0,1,2]) h=some (.normal,[(0,.aH c.f 0),(1,yT ll),(2,yT dl)],h2):=by
        simp only[I]at *
        simp only[AP.f20L1,go_sem,gf,s1,gf1,c256,acO c1,w1,p1']
       dsimp only at p4'
       by_cases hm:c.most≤S.out.length
       · rw[if_pos hm]at p4' ⊢
         have he2:S2.e=701:=by rw[p4']
         obtain⟨e',q⟩:=CY p2' (yT ll) (yT dl) (by rw[he2];decide)
         exact⟨e',h2,ov2,_,.inr (vX step q),p2',s3.trans p3',he2,by decide⟩
       · rw[if_neg hm]at p4' ⊢
         subst p4'
         obtain⟨e',h',ov',S',q1,q2,q3,q4⟩:=Ea ll dl hll hdl k _ h2 ov2 p2' rfl (by dsimp only;omega)
         refine⟨e',h',ov',S', ?_,q2,(s3.trans p3').trans q3,q4⟩
         rcases q1 with q1|q1
         · exact .inl (vX step q1)
         · exact .inr (vX step q1)
     · rw [if_neg c1]
       by_cases c2:(y:Int)=256
       · rw[if_pos c2]
         refine⟨[(0,.aH c.f 0),(1,yT ll),(2,yT dl),(6,I y),(32,.bool true)],h1,ov,_,.inl (wD ?_),s2,s3, ?_⟩
         · have c2':=wV c2
           simp only[I]at *
           simp only[AP.f20L1,go_sem,gf,s1,gf1,c2']
         · simp only[Fin];rw[he]
       · rw [if_neg c2]
         have c256:=wU c2
         have lo:=Ip h1 y (by omega)
         rw[adq]
         unfold D7
         have n600:((600:Int) !=0)=true:=rfl
         have n0:((0:Int) !=0)=false:=rfl
         cases hlo:lenOf y with
         | none =>
           rw[hlo]at lo
           obtain⟨h2,f1,f2,f3⟩:=B7 s2
           refine⟨[],h2,ov,_,.inl (wD ?_),f2,s3.trans f3,by simp [yP,he],by decide⟩
           simp only[I,C6]at *
           simp only[AP.f20L1,go_sem,gf,s1,gf1,c256,acL c1,lo,n600,f1]
         | some le =>
           obtain⟨least,extra⟩:=le
           rw[hlo]at lo
           obtain⟨b1,b2,b3⟩:=F7 hlo
           obtain⟨h2,k1,k2,k3⟩:=Bx s2 extra extra rfl (by omega)
           dsimp only
           by_cases hp:p1+extra≤8* c.text.size
           · have eg : yY c extra { S with at_ := p1 } = (yI c.text p1 extra, { S with at_ := p1 + extra }) := by rw [yY, if_pos hp]
             rw[eg]at k1 k2
             dsimp only at k1 k2
             rw[if_pos hp]
             have gf2:=k2.gf
             dsimp only at gf2
             rw[he]at gf2
             have hve:=zo c.text p1 extra
             have hve2:2^extra≤2^5:=acX (by omega) b2
             have w1:IntKind.wrap .i64 ((least:Int)+(yI c.text p1 extra:Int))=((least+yI c.text p1 extra:Nat):Int):=by
              rw[show(least:Int)+(yI c.text p1 extra:Int)=((least+yI c.text p1 extra:Nat):Int)by omega];exact yB (by omega)
             obtain⟨h3,S3,z,s1',s2',s3',s4'⟩:=GF dl hdl k2 he
             have gf3:=s2'.gf
             dsimp only at s4'
             cases hz2:Bm c.text dl 15 1 0 (p1+extra)with
             | none =>
               rw[hz2]at s4'
               obtain⟨s4',s5'⟩:=s4'
               have ce3:(S3.e !=0)=true:=wX (by rw[s4'];decide)
               refine⟨[(0,.aH c.f 0),(1,yT ll),(2,yT dl),(10,I (least+yI c.text p1 extra:Nat)),(11,I z),(66,.bool true)],h3,ov,S3,.inl (wD ?_),s2',(s3.trans k3).trans s3',s4',by decide⟩
               simp only[I,C6]at *
               simp only[AP.f20L1,go_sem,gf,s1,gf1,c256,acL c1,lo,n0,k1,w1,gf2,s1',gf3,ce3]
             | some zp =>
               obtain⟨z2,p2⟩:=zp
               rw[hz2]at s4'
               obtain⟨s4',s5'⟩:=s4'
               subst s5' s4'
               have zb2:=B6 hz2
               obtain⟨zn,hzn⟩:∃n:Nat,z=n:=acS zb2.1
               subst hzn
               have dob:=GC h3 zn (by omega)
               dsimp only at gf3 ⊢
               rw[he]at gf3
               rw[adq]
               cases hdo:yZ zn with
               | none =>
                 rw[hdo]at dob
                 obtain⟨h4,f1,f2,f3⟩:=B7 s2'
                 refine⟨[],h4,ov,_,.inl (wD ?_),f2,((s3.trans k3).trans s3').trans f3,by simp [yP,he],by decide⟩
                 simp only[I,C6]at *
                 simp only[AP.f20L1,go_sem,gf,s1,gf1,c256,acL c1,lo,n0,k1,w1,gf2,s1',gf3,dob,n600,f1]
               | some lx =>
                 obtain⟨ld,xd⟩:=lx
                 rw[hdo]at dob
                 obtain⟨d1,d2,d3⟩:=Eo hdo
                 obtain⟨h4,v1,v2,v3⟩:=Bx s2' xd xd rfl (by omega)
                 obtain⟨x,hx⟩:∃x,x=(yY c xd {S with at_:=p2}).1:=⟨_,rfl⟩
                 obtain⟨S4,hS4⟩:∃x,x=(yY c xd {S with at_:=p2}).2:=⟨_,rfl⟩
                 rw[←hx]at v1;rw[←hS4]at v2
                 have hxb:x<65536:=hx ▸ KO c _ xd (by omega)
                 have w2:IntKind.wrap .i64 ((ld:Int)+(x:Int))=((ld+x:Nat):Int):=by
                  rw[show(ld:Int)+(x:Int)=((ld+x:Nat):Int)by omega];exact yB (by omega)
                 have gf4:=v2.gf
                 have ln:=v2.own.len
                 rw[Bw]at ln
                 have frs:=((s3.trans k3).trans s3').trans v3
                 dsimp only
                 have toLoop:∀(h5:H) (e6:Env) (h6:H),((S4.e=0∧S4.out.length<ld+x∧aV AP.A 25 [.aH c.f 0] h4=some (.cf [],h5))∨((S4.e≠0∨¬S4.out.length<ld+x)∧h5=h4))→Lp AP.A [0,1,2,10,14,15] AP.f20L0 [(0,.aH c.f 0),(1,yT ll),(2,yT dl),(10,I (least+yI c.text p1 extra:Nat)),(14,I (ld+x:Nat)),(15,I 0)] h5=some (.exit 2,e6,h6)→
                  look e6 0=.aH c.f 0→look e6 1=yT ll→look e6 2=yT dl→aP (aV AP.A) bL AP.f20L1 (aC [(0,.aH c.f 0),(1,yT ll),(2,yT dl)] [0,1,2]) h=some (.normal,[(0,.aH c.f 0),(1,yT ll),(2,yT dl)],h6):=by
                  intro h5 e6 h6 hcase q6 l0 l1 l2
                  rcases hcase with ⟨g1,g2,g3⟩|⟨g1,rfl⟩
                  · have g2':(S4.out.length:Int)<((ld+x:Nat):Int):=by omega
                    have g1':=wV g1
                    simp only[I,C6]at *
                    simp only[AP.f20L1,go_sem,gf,s1,gf1,c256,acL c1,lo,n0,k1,w1,gf2,s1',gf3,dob,v1,w2,gf4,g1',ln,acO g2',g3,u9,q6,l0,l1,l2]
                  · by_cases g3:S4.e=0
                    · have g2:¬S4.out.length<ld+x:=by
                       rcases g1 with q|q
                       · exact absurd g3 q
                       · exact q
                      have g2':¬(S4.out.length:Int)<((ld+x:Nat):Int):=by omega
                      have g1':=wV g3
                      clear g1
                      simp only[I,C6]at *
                      simp only[AP.f20L1,go_sem,gf,s1,gf1,c256,acL c1,lo,n0,k1,w1,gf2,s1',gf3,dob,v1,w2,gf4,g1',ln,acL g2',u9,q6,l0,l1,l2]
                    · have g1':=wU g3
                      clear g1
                      simp only[I,C6]at *
                      simp only[AP.f20L1,go_sem,gf,s1,gf1,c256,acL c1,lo,n0,k1,w1,gf2,s1',gf3,dob,v1,w2,gf4,g1',ln,u9,q6,l0,l1,l2]
                 by_cases hp2:p2+xd≤8* c.text.size
                 · have egx:yY c xd {S with at_:=p2}=(yI c.text p2 xd,{S with at_:=p2+xd}):=by rw[yY,if_pos hp2]
                   rw[egx]at hx hS4;dsimp only at hx hS4
                   subst hS4
                   rw[←hx]
                   by_cases hbk:S.out.length<ld+x
                   · rw[if_neg (fun q=>by omega)]
                     obtain⟨h5,f1,f2,f3⟩:=B7 v2
                     have he5:(yP 700 {S with at_:=p2+xd}).e=700:=by simp [yP,he]
                     obtain⟨e6,q6,q7,q8,q9⟩:=DK f2 (yT ll) (yT dl) (least+yI c.text p1 extra) (ld+x) 0 (.inr ⟨by omega,by rw[he5];decide⟩)
                     have step:=toLoop h5 e6 h5 (.inl ⟨he,hbk,f1⟩) q6 q7 q8 q9
                     obtain⟨e',q⟩:=CY f2 (yT ll) (yT dl) (by rw[he5];decide)
                     exact⟨e',h5,ov,_,.inr (vX step q),f2,frs.trans f3,he5,by decide⟩
                   · rw[if_pos ⟨hp2,by omega⟩]
                     obtain⟨e6,h6,ov6,S6,q1,q2,q3,q4,q5,q6,q7⟩:=HX (c:=c) (yT ll) (yT dl) (ld+x) (by omega) (least+yI c.text p1 extra) (by omega) (least+yI c.text p1 extra) 0 _ h4 ov (by omega) v2 he (by dsimp only;omega)
                     have step:=toLoop h4 e6 h6 (.inr ⟨.inr hbk,rfl⟩) q1 q2 q3 q4
                     dsimp only at q7
                     cases hcl:CW c.most (ld+x) (least+yI c.text p1 extra) S.out with
                     | error q =>
                       rw[hcl]at q7
                       obtain⟨e',q'⟩:=CY q5 (yT ll) (yT dl) (by rw[q7.1];exact q7.2)
                       exact⟨e',h6,ov6,S6,.inr (vX step q'),q5,frs.trans q6,q7⟩
                     | ok o =>
                       rw[hcl]at q7
                       dsimp only at q7
                       subst q7
                       obtain⟨e',h',ov',S',r1,r2,r3,r4⟩:=Ea ll dl hll hdl k _ h6 ov6 q5 he (by dsimp only;omega)
                       refine⟨e',h',ov',S', ?_,r2,(frs.trans q6).trans r3,r4⟩
                       rcases r1 with r1|r1
                       · exact .inl (vX step r1)
                       · exact .inr (vX step r1)
                 · rw[if_neg (fun q=>hp2 q.1)]
                   have he4:S4.e=700:=by rw[hS4,yY,if_neg hp2];simp [yP,he]
                   obtain⟨e6,q6,q7,q8,q9⟩:=DK v2 (yT ll) (yT dl) (least+yI c.text p1 extra) (ld+x) 0 (.inr ⟨by omega,by rw[he4];decide⟩)
                   have step:=toLoop h4 e6 h4 (.inr ⟨.inl (by rw[he4];decide),rfl⟩) q6 q7 q8 q9
                   obtain⟨e',q⟩:=CY v2 (yT ll) (yT dl) (by rw[he4];decide)
                   exact⟨e',h4,ov,_,.inr (vX step q),v2,frs,he4,by decide⟩
           · have eg:yY c extra {S with at_:=p1}=(0,{S with at_:=p1,e:=700}):=by rw[yY,if_neg hp,yP,if_pos he]
             rw[eg]at k1 k2
             dsimp only at k1 k2
             rw[if_neg hp]
             have gf2:=k2.gf
             have w1:IntKind.wrap .i64 ((least:Int)+((0:Nat):Int))=((least:Nat):Int):=by
              rw[show(least:Int)+((0:Nat):Int)=((least:Nat):Int)by omega];exact yB (by omega)
             have n7:((700:Int) !=0)=true:=rfl
             refine⟨[(0,.aH c.f 0),(1,yT ll),(2,yT dl),(10,I least),(58,.bool true)],h2,ov,_,.inl (wD ?_),k2,s3.trans k3,rfl,by decide⟩
             simp only[I,C6]at *
             simp only[AP.f20L1,go_sem,gf,s1,gf1,c256,acL c1,lo,n0,k1,w1,gf2,n7]
theorem LZ {c:FC} {S:SS} {h:H} {ov:AV} (ll dl:List Int) (hll:ll.length<1000) (hdl:dl.length<1000) (st:Ft c S h ov) (he:S.e=0):
 ∃h' ov' S',aV AP.A 20 [.aH c.f 0,yT ll,yT dl] h=some (.cf [],h')∧Ft c S' h' ov'∧FF c h ov h' ov'∧Fin (Ak c.text c.most ll dl (8* c.text.size+1) S.at_ S.out) S':=by
 obtain⟨e',h',ov',S',q1,q2,q3,q4⟩:=Ea ll dl hll hdl (8* c.text.size+1) S h ov st he (by omega)
 refine⟨h',ov',S', ?_,q2,q3,q4⟩
 rcases q1 with q1|q1
 · refine wo (fn:=AP.f20) (e:=e') (vs:=[]) rfl rfl rfl ?_ rfl
   simp only[AP.f20,go_sem,u9,q1]
 · refine zr (fn:=AP.f20) (e:=[]) (vs:=[]) rfl rfl rfl ?_ rfl
   simp only[AP.f20,go_sem,u9,q1]
theorem MA (h:H):aV AP.A 32 [] h=some (zj yK,h):=by
 have b:bh [] (.du 1 19 [.int .i64 0] [(0,(.c (.int .i64 16))),(1,(.c (.int .i64 17))),(2,(.c (.int .i64 18))),(3,(.c (.int .i64 0))),(4,(.c (.int .i64 8))),(5,(.c (.int .i64 7))),(6,(.c (.int .i64 9))),(7,(.c (.int .i64 6))),(8,(.c (.int .i64 10))),(9,(.c (.int .i64 5))),(10,(.c (.int .i64 11))),(11,(.c (.int .i64 4))),(12,(.c (.int .i64 12))),(13,(.c (.int .i64 3))),(14,(.c (.int .i64 13))),(15,(.c (.int .i64 2))),(16,(.c (.int .i64 14))),(17,(.c (.int .i64 1))),(18,(.c (.int .i64 15)))])=some (ints yK,fun i=>.aI i 0 19 1):=rfl
 refine wN (fn:=AP.f32) (h2:=h.eV.alloc (ints yK)) (e:=[(0,.aI h.next 0 19 1)]) (vs:=[.aI h.next 0 19 1]) rfl rfl rfl ?_ rfl ?_
 · have hn:h.eV.next=h.next:=rfl
   simp only[AP.f32,go_sem,b,hn]
 · show snap (h.eV.alloc (ints yK)).get h.next 16 true (.aI h.next 0 19 1)=_
   unfold snap
   rw[if_neg (by omega),H.bc,if_pos (show h.next=h.eV.next from rfl),xM,if_pos (by decide)]
   rw[show((ints yK).drop 0).take (19* 1)=ints yK from rfl,A8];rfl
theorem Ap {h:H} {v:AV} {l:List Int} {fl:Nat} (o:pK h v (ints l)) (hf:fl≤h.floor) (hl:l≠[]):snap h.get fl 16 true v=some (zj l):=by
 rcases o with ⟨_,q⟩|⟨id,rfl,q,h2,_⟩
 · exact absurd (List.map_eq_nil_iff.1 q) hl
 · unfold snap
   rw[if_neg (by omega),q,xM,if_pos (by omega)]
   rw[ac8,ady,List.take_length,A8]
   simp [zj]
def fixF (i:Nat):Int:=if 144≤i∧i<256 then 9 else if 256≤i∧i<280 then 7 else 8
theorem G3 : ∀ (m i : Nat) (h : H) (v : AV), i + m = 288 → pK h v (ints ((List.range i).map fixF)) → h.floor ≤ h.next →
 ∃e' h' v',Lp AP.A [1,2] AP.f22L0 [(1,v),(2,I i)] h=some (.exit 0,e',h')∧look e' 1=v'∧pK h' v' (ints ((List.range 288).map fixF))∧h'.floor=h.floor
 | 0, i, h, v, hm, o, hf => by
   obtain rfl:i=288:=by omega
   refine⟨[(1,v),(2,I 288),(5,.bool false)],h,v,vW ?_,rfl,o,rfl⟩
   have c1:¬(((288:Nat):Int)<288):=by omega
   simp only[I]at *
   simp only[AP.f22L0,go_sem,acL c1]
   rfl
 | m + 1, i, h, v, hm, o, hf => by
   have c1:(i:Int)<288:=by omega
   have w1:IntKind.wrap .i64 ((i:Int)+1)=((i+1:Nat):Int):=yB (n:=i+1) (by omega)
   obtain⟨g,hg⟩:∃g,g=h.alloc [I (fixF i)]:=⟨_,rfl⟩
   have og:pK g v (ints ((List.range i).map fixF)):=o.mono (by rw[hg];simp) fun j hj=>by have:=o.lt hj;rw[hg,H.bc,if_neg (by omega)]
   have hgf:g.floor≤g.next:=by rw[hg];simp;omega
   obtain⟨v',h2,r1,r2,r3,r4,r5,r6⟩:=og.app hgf (z:=8) (I (fixF i)) rfl (by simp [roomy];omega)
   have src:aW g 1 (.aI h.next 0 1 1)=some (1,[I (fixF i)]):=by simp [aW,hg,H.bc]
   have ap:mR g 1 8 v (.aI h.next 0 1 1)=some (v',h2):=by unfold mR;rw[src,xM];exact r1
   have bt:∀e:Env,look e 21=.int .i64 (fixF i)→bh e (.du 1 1 [.int .i64 0] [(0,.t 21)])=some ([.int .i64 (fixF i)],fun i=>.aI i 0 1 1):=by
    intro e q;simp only[bh,acW,adr,vg,q];rfl
   have hr:ints ((List.range i).map fixF)++[I (fixF i)]=ints ((List.range (i+1)).map fixF):=by
    rw[List.range_succ,adk,rX];rfl
   rw[hr]at r2
   have step:aP (aV AP.A) bL AP.f22L0 (aC [(1,v),(2,I i)] [1,2]) h=some (.normal,[(1,v'),(2,I (i+1:Nat))],h2):=by
    clear hr
    by_cases q1:144≤i
    · have d1:(144:Int)≤i:=by omega
      by_cases q2:i<256
      · have d2:(i:Int)<256:=by omega
        have hx:fixF i=9:=by rw[fixF,if_pos ⟨q1,q2⟩]
        rw[hx]at hg bt
        simp only[I]at *
        simp only[AP.f22L0,go_sem,acO c1,acO d1,acO d2]
        rw[bt _ rfl]
        simp only[go_sem,←hg,ap,w1]
      · have d2:¬(i:Int)<256:=by omega
        have d3:(256:Int)≤i:=by omega
        by_cases q3:i<280
        · have d4:(i:Int)<280:=by omega
          have hx:fixF i=7:=by rw[fixF,if_neg (by omega),if_pos ⟨by omega,q3⟩]
          rw[hx]at hg bt
          simp only[I]at *
          simp only[AP.f22L0,go_sem,acO c1,acO d1,acL d2,acO d3,acO d4]
          rw[bt _ rfl]
          simp only[go_sem,←hg,ap,w1]
        · have d4:¬(i:Int)<280:=by omega
          have hx:fixF i=8:=by rw[fixF,if_neg (by omega),if_neg (by omega)]
          rw[hx]at hg bt
          simp only[I]at *
          simp only[AP.f22L0,go_sem,acO c1,acO d1,acL d2,acO d3,acL d4]
          rw[bt _ rfl]
          simp only[go_sem,←hg,ap,w1]
    · have d1:¬(144:Int)≤i:=by omega
      have d3:¬(256:Int)≤i:=by omega
      have hx:fixF i=8:=by rw[fixF,if_neg (by omega),if_neg (by omega)]
      rw[hx]at hg bt
      simp only[I]at *
      simp only[AP.f22L0,go_sem,acO c1,acL d1,acL d3]
      rw[bt _ rfl]
      simp only[go_sem,←hg,ap,w1]
   obtain⟨e',h',v2,s1,s2,s3,s4⟩:=G3 m (i+1) h2 v' (by omega) r2 (by rw[r3];exact yw hgf r4)
   exact⟨e',h',v2,vX step s1,s2,s3,by rw[s4,r3,hg];simp⟩
theorem PX:(List.range 288).map fixF=y7:=by decide+kernel
theorem L9 (h:H):aV AP.A 22 [] h=some (zj y7,h):=by
 obtain⟨e',h',v',s1,s2,s3,s4⟩:=G3 288 0 h.eV .aT rfl (.inl ⟨rfl,rfl⟩) (xQ _)
 have s1':Lp AP.A [1,2] AP.f22L0 [(1,.aT),(2,I 0)] h.eV=some (.exit 0,e',h'):=s1
 clear s1
 rw[PX]at s3
 refine wN (fn:=AP.f22) (h2:=h') (e:=[(0,v')]) (vs:=[v']) rfl rfl rfl ?_ rfl ?_
 · simp only[I]at *
   simp only[AP.f22,go_sem,u9,s1',s2]
 · exact Ap s3 (by rw[s4];exact xQ _) (by intro e;have:=adu List.length e;rw[CM]at this;simp at this)
theorem HZ (id : Nat) : ∀ (m i : Nat) (h : H), i + m = 30 → h.get id = some (ints (List.replicate i 5 ++ List.replicate m 0)) → h.floor ≤ id →
 ∃e' h',Lp AP.A [1,2] AP.f23L0 [(1,.aI id 0 30 1),(2,I i)] h=some (.exit 0,e',h')∧look e' 1=.aI id 0 30 1∧h'.get id=some (ints (List.replicate 30 5))∧h'.floor=h.floor
 | 0, i, h, hm, hg, hf => by
   obtain rfl:i=30:=by omega
   refine⟨[(1,.aI id 0 30 1),(2,I 30),(5,.bool false)],h,vW ?_,rfl,hg,rfl⟩
   have c1:¬(((30:Nat):Int)<30):=by omega
   simp only[I]at *
   simp only[AP.f23L0,go_sem,acL c1]
   rfl
 | m + 1, i, h, hm, hg, hf => by
   have c1:(i:Int)<30:=by omega
   have w1:IntKind.wrap .i64 ((i:Int)+1)=((i+1:Nat):Int):=yB (n:=i+1) (by omega)
   have ia:ik 1 (.aI id 0 30 1) (I i)=some (.aH id i):=by simp [ik,mD (show i<30 by omega)]
   have hset:(ints (List.replicate i 5++List.replicate (m+1) 0)).set i (I 5)=ints (List.replicate (i+1) 5++List.replicate m 0):=by
    have h1:(List.replicate i (5:Int)++List.replicate (m+1) 0).set i 5=List.replicate (i+1) 5++List.replicate m 0:=by
     rw[List.set_append_right _ _ (by simp),acZ,Nat.sub_self,List.replicate_succ,List.set_cons_zero,List.replicate_succ',acY];rfl
    rw[←h1];simp [ints,List.map_set]
   have hst:wP h id i 1 [I 5] (some (ints (List.replicate i 5++List.replicate (m+1) 0)))=some (h.set id (ints (List.replicate (i+1) 5++List.replicate m 0))):=by
    rw[xm hf (by rw[rY];simp) rfl,hset]
   have step:aP (aV AP.A) bL AP.f23L0 (aC [(1,.aI id 0 30 1),(2,I i)] [1,2]) h=some (.normal,[(1,.aI id 0 30 1),(2,I (i+1:Nat))],h.set id (ints (List.replicate (i+1) 5++List.replicate m 0))):=by
    clear hset
    generalize ints (List.replicate (i+1) 5++List.replicate m 0)=L1 at *
    generalize ints (List.replicate i 5++List.replicate (m+1) 0)=L0 at *
    simp only[I]at *
    simp only[AP.f23L0,go_sem,acO c1,ia,hg,hst,w1]
   obtain⟨e',h',s1,s2,s3,s4⟩:=HZ id m (i+1) _ (by omega) (by rw[H.ee,if_pos rfl,hg];rfl) (by simpa using hf)
   exact⟨e',h',vX step s1,s2,s3,by rw[s4];simp⟩
theorem OH (h:H):aV AP.A 23 [] h=some (zj (List.replicate 30 5),h):=by
 obtain⟨h1,hh1⟩:∃g,g=h.eV.alloc (ints (List.replicate 30 0)):=⟨_,rfl⟩
 have hg:h1.get h.next=some (ints (List.replicate 0 5++List.replicate 30 0)):=by rw[hh1,H.bc,if_pos (show h.next=h.eV.next from rfl)];rfl
 obtain⟨e',h',s1,s2,s3,s4⟩:=HZ h.next 30 0 h1 rfl hg (by rw[hh1];simp)
 have s1':Lp AP.A [1,2] AP.f23L0 [(1,.aI h.next 0 30 1),(2,I 0)] h1=some (.exit 0,e',h'):=s1
 clear s1
 have bt:∀e:Env,bh e (.jR 1 8 [.int .i64 0] (.c (.int .i64 30)) (.c (.int .i64 30)))=some (ints (List.replicate 30 0),fun i=>.aI i 0 30 1):=fun _=>rfl
 have hn:h.eV.next=h.next:=rfl
 refine wN (fn:=AP.f23) (h2:=h') (e:=[(0,.aI h.next 0 30 1)]) (vs:=[.aI h.next 0 30 1]) rfl rfl rfl ?_ rfl ?_
 · simp only[I]at *
   simp only[AP.f23,go_sem,bt,←hh1,hn,u9,s1',s2]
 · exact Ap (l:=List.replicate 30 5) (.inr ⟨h.next,rfl,s3,by rw[s4,hh1];simp,by decide⟩) (by rw[s4,hh1];simp) (by decide)
theorem JW {x:AV} {l:List Int} (hl:l.length<100000) (h:H) (rd:Rd h x (ints l)):∀(q p:List Int),l=p++q→
 (∃e',Lp AP.A [0,3] AP.f67L0 [(0,x),(3,I p.length)] h=some (.exit 0,e',h)∧(ints q).any DT=false)∨(∃e',Lp AP.A [0,3] AP.f67L0 [(0,x),(3,I p.length)] h=some (.ret,e',h)∧look e' 2=.bool false∧(ints q).any DT=true)
 | [], p, hp => by
   have ln:=rd.len
   rw[rY]at ln
   left
   refine⟨[(0,x),(3,I p.length),(15,.bool false)],vW ?_,rfl⟩
   have c1:¬(p.length:Int)<(l.length:Int):=by rw[hp];simp
   simp only[I]at *
   simp only[AP.f67L0,go_sem,ln,acL c1]
 | y :: q, p, hp => by
   have ln:=rd.len
   rw[rY]at ln
   have hlen:l.length=p.length+(q.length+1):=by rw[hp];simp
   have c1:(p.length:Int)<(l.length:Int):=by omega
   have hv:(ints l)[p.length]?=some (I y):=vG (by rw[hp];simp)
   obtain⟨ad,p1,p2⟩:=rd.elem hv
   have p3:=p2 h (fun _ _ q=>q)
   have w1:IntKind.wrap .i64 ((p.length:Int)+1)=(((p++[y]).length:Nat):Int):=by
    rw[yy];exact yB (n:=p.length+1) (by omega)
   have hany:(ints (y::q)).any DT=(DT (I y)||(ints q).any DT):=rfl
   rw[hany]
   by_cases d1:y<0
   · right
     refine⟨[(2,.bool false)],wD ?_,rfl,by simp [DT,I,d1]⟩
     simp only[I]at *
     simp only[AP.f67L0,go_sem,ln,acO c1,p1,p3,acO d1]
   by_cases d2:15<y
   · right
     refine⟨[(2,.bool false)],wD ?_,rfl,by simp [DT,I,d2]⟩
     simp only[I]at *
     simp only[AP.f67L0,go_sem,ln,acO c1,p1,p3,acL d1,acO d2]
   have hb:DT (I y)=false:=by simp [DT,I];omega
   have step:aP (aV AP.A) bL AP.f67L0 (aC [(0,x),(3,I p.length)] [0,3]) h=some (.normal,[(0,x),(3,I (p++[y]).length)],h):=by
    clear hany hb
    generalize (p++[y]).length=B at *
    simp only[I]at *
    simp only[AP.f67L0,go_sem,ln,acO c1,p1,p3,acL d1,acL d2,w1]
   rw[hb,Bool.false_or]
   rcases JW hl h rd q (p++[y]) (by rw[hp];simp)with ⟨e',r1,r2⟩|⟨e',r1,r2,r3⟩
   · exact .inl ⟨e',vX step r1,r2⟩
   · exact .inr ⟨e',vX step r1,r2,r3⟩
theorem Yo (h:H) (x:AV) (l:List Int) (hl:l.length<100000) (rd:Rd h x (ints l)):aV AP.A 67 [x] h=some (.bool (Fc l),h):=by
 have rd':=rd.mono (yQ h)
 have ln:=rd.len
 rw[rY]at ln
 unfold Fc
 by_cases c1:l.length<1
 · refine wN (fn:=AP.f67) (h2:=h.eV) (e:=[(2,.bool false)]) rfl rfl rfl ?_ rfl (by rw[acL (show¬1≤l.length by omega)];rfl)
   have c1':(l.length:Int)<1:=by omega
   simp only[I]at *
   simp only[AP.f67,go_sem,ln,acO c1']
 have c1':¬(l.length:Int)<1:=by omega
 by_cases c2:288<l.length
 · refine wN (fn:=AP.f67) (h2:=h.eV) (e:=[(2,.bool false)]) rfl rfl rfl ?_ rfl (by rw[acL (show¬l.length≤288 by omega),ac7];rfl)
   have c2':(288:Int)<(l.length:Int):=by omega
   simp only[I]at *
   simp only[AP.f67,go_sem,ln,acL c1',acO c2']
 have c2':¬(288:Int)<(l.length:Int):=by omega
 rw[acO (show 1≤l.length by omega),acO (show l.length≤288 by omega)]
 rcases JW hl h.eV rd' l [] rfl with ⟨e',r1,r2⟩|⟨e',r1,r2,r3⟩
 · have r1':Lp AP.A [0,3] AP.f67L0 [(0,x),(3,I 0)] h.eV=some (.exit 0,e',h.eV):=r1
   clear r1
   rw[r2]
   refine wN (fn:=AP.f67) (h2:=h.eV) (e:=[(2,.bool true)]) rfl rfl rfl ?_ rfl rfl
   simp only[I]at *
   simp only[AP.f67,go_sem,ln,acL c1',acL c2',u9,r1']
 · have r1':Lp AP.A [0,3] AP.f67L0 [(0,x),(3,I 0)] h.eV=some (.ret,e',h.eV):=r1
   clear r1
   rw[r3]
   refine wN (fn:=AP.f67) (h2:=h.eV) (e:=e') (vs:=[.bool false]) rfl rfl rfl ?_ (by simp only[AP.f67,dh,pB,r2];rfl) rfl
   simp only[I]at *
   simp only[AP.f67,go_sem,ln,acL c1',acL c2',u9,r1']
theorem E6 (p:List Int) (x:Int):∀n:Nat,yU (p++[x]) n=yU p n-(if 1≤x∧x≤n then 2^(n-x.toNat)else 0)
 | 0 => by
   rw[if_neg (by omega)];simp [yU]
 | n + 1 => by
   have e1:yU (p++[x]) (n+1)=yU (p++[x]) n* 2-Ah (p++[x]) (n+1):=rfl
   have e2:yU p (n+1)=yU p n* 2-Ah p (n+1):=rfl
   rw[e1,e2,E6 p x n,D6]
   by_cases h1:x=((n+1:Nat):Int)
   · rw[if_neg (by omega),if_pos ⟨by omega,h1⟩,if_pos (by omega)]
     rw[show n+1-x.toNat=0 by omega];simp;omega
   · rw[if_neg (show¬(n+1≠0∧x=((n+1:Nat):Int))from fun q=>h1 q.2)]
     by_cases h2:1≤x∧x≤(n:Int)
     · rw[if_pos h2,if_pos (by omega),show n+1-x.toNat=(n-x.toNat)+1 by omega,Int.pow_succ];omega
     · rw[if_neg h2,if_neg (by omega)];omega
theorem J7 {x : AV} {l : List Int} (hl : l.length < 100000) (hr : BA l) (h : H) (rd : Rd h x (ints l)) : ∀ (q p : List Int), l = p ++ q →
 ∃e',Lp AP.A [0,3,4] AP.f68L0 [(0,x),(3,I (32768-yU p 15)),(4,I p.length)] h=some (.exit 0,e',h)∧look e' 3=I (32768-yU l 15)
 | [], p, hp => by
   rw[acU]at hp;subst hp
   have ln:=rd.len
   rw[rY]at ln
   refine⟨[(0,x),(3,I (32768-yU l 15)),(4,I l.length),(8,.bool false)],vW ?_,rfl⟩
   have c1:¬(l.length:Int)<(l.length:Int):=by omega
   simp only[I]at *
   simp only[AP.f68L0,go_sem,ln,acL c1]
 | y :: q, p, hp => by
   have ln:=rd.len
   rw[rY]at ln
   have hlen:l.length=p.length+(q.length+1):=by rw[hp];simp
   have c1:(p.length:Int)<(l.length:Int):=by omega
   have hv:(ints l)[p.length]?=some (I y):=vG (by rw[hp];simp)
   have hy:=hr y (by rw[hp];simp)
   obtain⟨ad,p1,p2⟩:=rd.elem hv
   have p3:=p2 h (fun _ _ q=>q)
   have w1:IntKind.wrap .i64 ((p.length:Int)+1)=(((p++[y]).length:Nat):Int):=by
    rw[yy];exact yB (n:=p.length+1) (by omega)
   have hsn:=E6 p y 15
   have hbd:=Mn (show p.length<100000 by omega) 15
   have step:aP (aV AP.A) bL AP.f68L0 (aC [(0,x),(3,I (32768-yU p 15)),(4,I p.length)] [0,3,4]) h=some (.normal,[(0,x),(3,I (32768-yU (p++[y]) 15)),(4,I (p++[y]).length)],h):=by
    by_cases d1:0<y
    · obtain⟨yn,hyn⟩:∃n:Nat,y=n:=acS hy.1
      subst hyn
      rw[if_pos (by omega),adq]at hsn
      have w2:IntKind.wrap .i64 (15-(yn:Int))=((15-yn:Nat):Int):=by rw[show 15-(yn:Int)=((15-yn:Nat):Int)by omega];exact yB (by omega)
      have hp15:2^(15-yn)≤2^15:=acX (by omega) (by omega)
      have s1:rF .shl .i64 1 ((15-yn:Nat):Int)=some (.int .i64 ((2^(15-yn):Nat):Int)):=by
       have:=Bq (a:=1) (s:=15-yn) (by omega) (by omega)
       rw[Nat.one_mul]at this;exact this
      have hpc:((2^(15-yn):Nat):Int)=2^(15-yn):=by simp
      have hpos:(0:Int)≤2^(15-yn):=Int.pow_nonneg (by omega)
      have w3:IntKind.wrap .i64 (32768-yU p 15+((2^(15-yn):Nat):Int))=32768-yU (p++[(yn:Int)]) 15:=by
       rw[show 32768-yU p 15+((2^(15-yn):Nat):Int)=32768-yU (p++[(yn:Int)]) 15 by rw[hsn,hpc];omega]
       refine wA ?_ ?_
       · rw[hsn];rw[←hpc];omega
       · rw[hsn];rw[←hpc];omega
      clear hsn hpc hbd hp15
      generalize (p++[(yn:Int)]).length=B at *
      generalize yU (p++[(yn:Int)]) 15=L2 at *
      generalize yU p 15=L1 at *
      generalize 2^(15-yn)=PW at *
      simp only[I]at *
      simp only[AP.f68L0,go_sem,ln,acO c1,p1,p3,acO d1,w2,s1,w3,w1]
    · rw[if_neg (by omega),Int.sub_zero]at hsn
      rw[hsn]
      clear hsn hbd
      generalize (p++[y]).length=B at *
      simp only[I]at *
      simp only[AP.f68L0,go_sem,ln,acO c1,p1,p3,acL d1,w1]
   obtain⟨e',r1,r2⟩:=J7 hl hr h rd q (p++[y]) (by rw[hp];simp)
   exact⟨e',vX step r1,r2⟩
theorem Yx (h:H) (x:AV) (l:List Int) (hl:l.length<100000) (hr:BA l) (rd:Rd h x (ints l)):aV AP.A 68 [x] h=some (I (32768-yU l 15),h):=by
 obtain⟨e',r1,r2⟩:=J7 hl hr h.eV (rd.mono (yQ h)) l [] rfl
 have r1':Lp AP.A [0,3,4] AP.f68L0 [(0,x),(3,I 0),(4,I 0)] h.eV=some (.exit 0,e',h.eV):=r1
 clear r1
 refine wN (fn:=AP.f68) (h2:=h.eV) (e:=[(2,I (32768-yU l 15))]) rfl rfl rfl ?_ rfl rfl
 simp only[I]at *
 simp only[AP.f68,go_sem,u9,r1',r2]
theorem FD (h : H) (x : AV) (l : List Int) (hl : l.length < 100000) (rd : Rd h x (ints l)) : aV AP.A 52 [x] h = some (I (yV l), h) := by
 have rd':=rd.mono (yQ h)
 have k1:=Yo h.eV x l hl rd'
 unfold yV
 by_cases hm:Fc l=true
 · have k2:=Yx h.eV x l hl (GK hm) rd'
   rw[hm]at k1 ⊢
   rw[if_neg (by decide)]
   by_cases c1:yU l 15<0
   · rw[if_pos c1]
     have d1:32768<32768-yU l 15:=by omega
     refine wN (fn:=AP.f52) (h2:=h.eV) (e:=[(2,I 301)]) rfl rfl rfl ?_ rfl rfl
     simp only[I]at *
     simp only[AP.f52,go_sem,k1,k2,acO d1]
   · rw[if_neg c1]
     have d1:¬32768<32768-yU l 15:=by omega
     by_cases c2:0<yU l 15
     · rw[if_pos c2]
       have d2:32768-yU l 15<32768:=by omega
       refine wN (fn:=AP.f52) (h2:=h.eV) (e:=[(2,I 302)]) rfl rfl rfl ?_ rfl rfl
       simp only[I]at *
       simp only[AP.f52,go_sem,k1,k2,acL d1,acO d2]
     · rw[if_neg c2]
       have d2:¬32768-yU l 15<32768:=by omega
       refine wN (fn:=AP.f52) (h2:=h.eV) (e:=[(2,I 0)]) rfl rfl rfl ?_ rfl rfl
       simp only[I]at *
       simp only[AP.f52,go_sem,k1,k2,acL d1,acL d2]
 · have hm':Fc l=false:=by simpa using hm
   rw[hm']at k1 ⊢
   rw[if_pos rfl]
   refine wN (fn:=AP.f52) (h2:=h.eV) (e:=[(2,I 300)]) rfl rfl rfl ?_ rfl rfl
   simp only[I]at *
   simp only[AP.f52,go_sem,k1]
theorem Eh {x : AV} {l : List Int} (hl : l.length < 100000) (hr : BA l) (h : H) (rd : Rd h x (ints l)) : ∀ (q p : List Int) (m b s : Int), l = p ++ q → 0 ≤ m → m ≤ p.length → m ≤ s → (m = 0 → s = 0) → (m = 1 → b = s) →
 ∃e' m' b',Lp AP.A [0,3,4,5] AP.f54L0 [(0,x),(3,I m),(4,I b),(5,I p.length)] h=some (.exit 0,e',h)∧look e' 3=I m'∧look e' 4=I b'∧0≤m'∧m'≤K9 q s∧(m'=0→K9 q s=0)∧(m'=1→b'=K9 q s)
 | [], p, m, b, s, hp, h1, h2, h3, h4, h5 => by
   have ln:=rd.len
   rw[rY]at ln
   refine⟨[(0,x),(3,I m),(4,I b),(5,I p.length),(9,.bool false)],m,b,vW ?_,rfl,rfl,h1,h3,h4,h5⟩
   have c1:¬(p.length:Int)<(l.length:Int):=by rw[hp];simp
   simp only[I]at *
   simp only[AP.f54L0,go_sem,ln,acL c1]
 | y :: q, p, m, b, s, hp, h1, h2, h3, h4, h5 => by
   have ln:=rd.len
   rw[rY]at ln
   have hlen:l.length=p.length+(q.length+1):=by rw[hp];simp
   have c1:(p.length:Int)<(l.length:Int):=by omega
   have hv:(ints l)[p.length]?=some (I y):=vG (by rw[hp];simp)
   have hy:=hr y (by rw[hp];simp)
   obtain⟨ad,p1,p2⟩:=rd.elem hv
   have p3:=p2 h (fun _ _ q=>q)
   have w1:IntKind.wrap .i64 ((p.length:Int)+1)=(((p++[y]).length:Nat):Int):=by
    rw[yy];exact yB (n:=p.length+1) (by omega)
   by_cases d1:0<y
   · have w2:IntKind.wrap .i64 (m+1)=m+1:=wA (by omega) (by omega)
     have step:aP (aV AP.A) bL AP.f54L0 (aC [(0,x),(3,I m),(4,I b),(5,I p.length)] [0,3,4,5]) h=some (.normal,[(0,x),(3,I (m+1)),(4,I y),(5,I (p++[y]).length)],h):=by
      generalize hB:(p++[y]).length=B at *
      simp only[I]at *
      simp only[AP.f54L0,go_sem,ln,acO c1,p1,p3,acO d1,w2,w1]
     obtain⟨e',m',b',r1,r2⟩:=Eh hl hr h rd q (p++[y]) (m+1) y (s+y) (by rw[hp];simp) (by omega) (by simp;omega) (by omega) (by omega) (by intro e;have:=h4 (by omega);omega)
     exact⟨e',m',b',vX step r1,r2⟩
   · have hy0:y=0:=by omega
     have step:aP (aV AP.A) bL AP.f54L0 (aC [(0,x),(3,I m),(4,I b),(5,I p.length)] [0,3,4,5]) h=some (.normal,[(0,x),(3,I m),(4,I b),(5,I (p++[y]).length)],h):=by
      generalize hB:(p++[y]).length=B at *
      simp only[I]at *
      simp only[AP.f54L0,go_sem,ln,acO c1,p1,p3,acL d1,w1]
     obtain⟨e',m',b',r1,r2⟩:=Eh hl hr h rd q (p++[y]) m b (s+y) (by rw[hp];simp) h1 (by simp;omega) (by omega) (by intro e;have:=h4 e;omega) (by intro e;have:=h5 e;omega)
     exact⟨e',m',b',vX step r1,r2⟩
theorem Sk (h:H) (x:AV) (l:List Int) (hl:l.length<100000) (hr:BA l) (rd:Rd h x (ints l)):aV AP.A 54 [x] h=some (.bool (zY l),h):=by
 obtain⟨e',m',b',r1,r2,r3,r4,r5,r6,r7⟩:=Eh hl hr h.eV (rd.mono (yQ h)) l [] 0 0 0 rfl (by omega) (by simp) (by omega) (by intro _;rfl) (by omega)
 have r1':Lp AP.A [0,3,4,5] AP.f54L0 [(0,x),(3,I 0),(4,I 0),(5,I 0)] h.eV=some (.exit 0,e',h.eV):=r1
 clear r1
 refine wN (fn:=AP.f54) (h2:=h.eV) (e:=[(2,.bool (zY l))]) rfl rfl rfl ?_ rfl rfl
 unfold zY
 generalize K9 l 0=s at *
 by_cases c0:m'=0
 · have d0:=wV c0
   have hs:s≤1:=by have:=r6 c0;omega
   rw[acO hs]
   simp only[I]at *
   simp only[AP.f54,go_sem,u9,r1',r2,r3,d0]
 have d0:=wU c0
 by_cases c1:m'=1
 · have d1:=wV c1
   have hb:=r7 c1
   by_cases c2:b'=1
   · have d2:=wV c2
     rw[acO (show s≤1 by omega)]
     simp only[I]at *
     simp only[AP.f54,go_sem,u9,r1',r2,r3,d0,d1,d2]
   · have d2:=wU c2
     rw[acL (show¬s≤1 by omega)]
     simp only[I]at *
     simp only[AP.f54,go_sem,u9,r1',r2,r3,d0,d1,d2]
 · have d1:=wU c1
   rw[acL (show¬s≤1 by omega)]
   simp only[I]at *
   simp only[AP.f54,go_sem,u9,r1',r2,r3,d0,d1]
theorem IH {c:FC} {S:SS} {h:H} {ov:AV} (st:Ft c S h ov) (b:AV) (many times n:Int) (v:AV) (i:Int) (hs:times≤i∨(i<times∧S.e≠0)):
 ∃e',Lp AP.A [0,1,2,7,9,10,11] AP.f53L0 [(0,.aH c.f 0),(1,b),(2,I many),(7,v),(9,I times),(10,I n),(11,I i)] h=some (.exit 3,e',h)∧look e' 0=.aH c.f 0∧look e' 1=b∧look e' 2=I many∧look e' 7=v:=by
 have gf:=st.gf
 refine⟨[(0,.aH c.f 0),(1,b),(2,I many),(7,v),(9,I times),(10,I n),(11,I i),(83,.bool false)],vW ?_,rfl,rfl,rfl,rfl⟩
 rcases hs with hn|⟨hn,he⟩
 · have c1:¬i<times:=by omega
   simp only[I]at *
   simp only[AP.f53L0,go_sem,acL c1]
 · have c2:=wU he
   simp only[I]at *
   simp only[AP.f53L0,go_sem,acO hn,gf,c2]
theorem MM {c:FC} (h0:H) {S:SS} {ov:AV} (he:S.e=0) (b:AV) (many:Int) (n:Int) (times:Nat) (ht:times≤1000):∀(m i:Nat) (acc:List Int) (h:H) (v:AV),i+m=times→Ft c S h ov→FF c h0 ov h ov→pK h v (ints acc)→acc.length<100000+i→(∀j,v.id?=some j→h0.next≤j)→(∀j,(j=c.f∨ov.id?=some j)→j<h0.next)→
 ∃e' h' v',Lp AP.A [0,1,2,7,9,10,11] AP.f53L0 [(0,.aH c.f 0),(1,b),(2,I many),(7,v),(9,I times),(10,I n),(11,I i)] h=some (.exit 3,e',h')∧look e' 0=.aH c.f 0∧look e' 1=b∧look e' 2=I many∧look e' 7=v'∧Ft c S h' ov∧FF c h0 ov h' ov∧pK h' v' (ints (acc++List.replicate m n))∧∀j,v'.id?=some j→h0.next≤j
 | 0, i, acc, h, v, hm, st, fr, o, hal, hid, hlo => by
   obtain⟨e',q1,q2,q3,q4,q5⟩:=IH st b many times n v i (.inl (by omega))
   exact⟨e',h,v,q1,q2,q3,q4,q5,st,fr,by simpa using o,hid⟩
 | m + 1, i, acc, h, v, hm, st, fr, o, hal, hid, hlo => by
   have gf:=st.gf
   rw[he]at gf
   have c1:(i:Int)<times:=by omega
   have w1:IntKind.wrap .i64 ((i:Int)+1)=((i+1:Nat):Int):=yB (n:=i+1) (by omega)
   obtain⟨g,hg⟩:∃g,g=h.alloc [I n]:=⟨_,rfl⟩
   have al:=st.alloc [I n]
   rw[←hg]at al
   have og:pK g v (ints acc):=o.mono (by rw[hg];simp) fun j hj=>by have:=o.lt hj;rw[hg,H.bc,if_neg (by omega)]
   have hgf:=al.1.nx
   obtain⟨v',h2,r1,r2,r3,r4,r5,r6⟩:=og.app hgf (z:=8) (I n) rfl (by simp [roomy];omega)
   have src:aW g 1 (.aI h.next 0 1 1)=some (1,[I n]):=by simp [aW,hg,H.bc]
   have ap:mR g 1 8 v (.aI h.next 0 1 1)=some (v',h2):=by unfold mR;rw[src,xM];exact r1
   have bt:∀e:Env,look e 87=.int .i64 n→bh e (.du 1 1 [.int .i64 0] [(0,.t 87)])=some ([.int .i64 n],fun i=>.aI i 0 1 1):=by
    intro e q;simp only[bh,acW,adr,vg,q];rfl
   have step:aP (aV AP.A) bL AP.f53L0 (aC [(0,.aH c.f 0),(1,b),(2,I many),(7,v),(9,I times),(10,I n),(11,I i)] [0,1,2,7,9,10,11]) h=some (.normal,[(0,.aH c.f 0),(1,b),(2,I many),(7,v'),(9,I times),(10,I n),(11,I (i+1:Nat))],h2):=by
    simp only[I]at *
    simp only[AP.f53L0,go_sem,acO c1,gf]
    rw[bt _ rfl]
    simp only[go_sem,←hg,ap,w1]
   have frg:=fr.trans al.2
   have st2:Ft c S h2 ov:=al.1.Ad r3 r4 fun j hj=>r5 j (fun e=>by have:=hid j e;have:=hlo j hj;omega) (by have:=hlo j hj;have:=frg.nx;omega)
   have fr2:FF c h0 ov h2 ov:=⟨r3.trans frg.fl,yw frg.nx r4,fun id i1 i2 i4=>by rw[r5 id (fun e=>by have:=hid id e;omega) (by have:=frg.nx;omega)];exact frg.G9 id i1 i2 i4,fun j hj=>.inl hj⟩
   have hr:ints acc++[I n]=ints (acc++[n]):=by rw[rX];rfl
   rw[hr]at r2
   obtain⟨e',h',v2,s1,s2,s3,s4,s5,s6,s7,s8,s9⟩:=MM h0 he b many n times ht m (i+1) (acc++[n]) h2 v' (by omega) st2 fr2 r2 (by simp;omega) (fun j hj=>by rw[r6]at hj;cases hj;exact frg.nx) hlo
   refine⟨e',h',v2,vX step s1,s2,s3,s4,s5,s6,s7, ?_,s9⟩
   rw[List.replicate_succ,show acc++n::List.replicate m n=acc++[n]++List.replicate m n by simp]
   exact s8
theorem EZ {c:FC} {S:SS} {h:H} {ov:AV} (st:Ft c S h ov) (b:AV) (many:Nat) {v:AV} {acc:List Int} (o:pK h v (ints acc)) (hs:many≤acc.length∨(acc.length<many∧S.e≠0)):
 ∃e',Lp AP.A [0,1,2,7] AP.f53L1 [(0,.aH c.f 0),(1,b),(2,I many),(7,v)] h=some (.exit 0,e',h)∧look e' 7=v:=by
 have gf:=st.gf
 have ln:=o.len
 rw[rY]at ln
 refine⟨[(0,.aH c.f 0),(1,b),(2,I many),(7,v),(22,.bool false)],vW ?_,rfl⟩
 rcases hs with hs|⟨hs,he⟩
 · have c1:¬(acc.length:Int)<many:=by omega
   simp only[I]at *
   simp only[AP.f53L1,go_sem,ln,acL c1]
 · have c1:(acc.length:Int)<many:=by omega
   have c2:=wU he
   simp only[I]at *
   simp only[AP.f53L1,go_sem,ln,acO c1,gf,c2]
theorem NQ {c : FC} {S2 : SS} {h2 : H} {ov : AV} (h0 : H) (cl : List Int) (many : Nat) (hm : many ≤ 400) {v : AV} {acc : List Int} (st : Ft c S2 h2 ov) (fr : FF c h0 ov h2 ov) (o : pK h2 v (ints acc)) (hal : acc.length < many) (hid : ∀ j, v.id? = some j → h0.next ≤ j) (hlo : ∀ j, (j = c.f ∨ ov.id? = some j) → j < h0.next) (n : Int) (times : Nat) (ht : times ≤ 1000) (he2 : S2.e = 0 ∨ S2.e = 700) (code : aK)
 (hcode:code=(.seq (.seq (.qU [⟨(some 59),.mv (.t 0),none⟩,⟨(some 60),.qp (.t 59),none⟩,⟨(some 61),.qe 4 (.t 60),none⟩,⟨(some 62),.load false 1 (.t 61),none⟩,⟨(some 63),.bin .eql (.t 62) (.c (.int .i64 0)),none⟩,⟨(some 64),.mv (.t 63),none⟩,⟨(some 65),.mv (.t 7),(some (64,true))⟩,⟨(some 66),.len false (.t 65),(some (64,true))⟩,⟨(some 67),.mv (.t 9),(some (64,true))⟩,⟨(some 68),.bin .add (.t 66) (.t 67),(some (64,true))⟩,⟨(some 69),.mv (.t 2),(some (64,true))⟩,⟨(some 70),.bin .gtr (.t 68) (.t 69),(some (64,true))⟩,⟨(some 71),.pick (.t 64) (.t 70) (.c (.bool false)),none⟩] [0,1,2,7,9,10,71]) (.cond (.t 71) (.qU [⟨(some 72),.mv (.t 0),none⟩,⟨(some 73),.call (.c (.fn 25 [] [])) [(.t 72)],none⟩] [0,1,2,7,9,10]) (.skip) [0,1,2,7,9,10])) (.seq (.qU [⟨(some 11),.mv (.c (.int .i64 0)),none⟩] [0,1,2,7,9,10,11]) (.block 3 (.loop [0,1,2,7,9,10,11] AP.f53L0) [0,1,2,7])))):
 ∃ h3 S3 v3, aP (aV AP.A) bL code [(0, .aH c.f 0), (1, yT cl), (2, I many), (7, v), (9, I times), (10, I n)] h2 = some (.normal, [(0, .aH c.f 0), (1, yT cl), (2, I many), (7, v3)], h3) ∧ Ft c S3 h3 ov ∧ FF c h0 ov h3 ov ∧
   ((S2.e=0∧acc.length+times≤many∧S3=S2∧pK h3 v3 (ints (acc++List.replicate times n))∧∀j,v3.id?=some j→h0.next≤j)∨((S2.e≠0∨many<acc.length+times)∧S3.e=700∧v3=v∧pK h3 v (ints acc))):=by
 have gf:=st.gf
 have ln:=o.len
 rw[rY]at ln
 subst hcode
 have w1:IntKind.wrap .i64 ((acc.length:Int)+times)=((acc.length+times:Nat):Int):=by rw[show(acc.length:Int)+times=((acc.length+times:Nat):Int)by omega];exact yB (by omega)
 by_cases he:S2.e=0
 · have ce:=wV he
   by_cases hgt:many<acc.length+times
   · have d1:(many:Int)<((acc.length+times:Nat):Int):=by omega
     obtain⟨h3,f1,f2,f3⟩:=B7 st
     have he3:(yP 700 S2).e=700:=by simp [yP,he]
     have hs:(times:Int)≤0∨((0:Int)<times∧(yP 700 S2).e≠0):=by
      by_cases q:0<times
      · exact .inr ⟨by omega,by rw[he3];decide⟩
      · exact .inl (by omega)
     obtain⟨e',q1,q2,q3,q4,q5⟩:=IH f2 (yT cl) many times n v 0 hs
     have o3:pK h3 v (ints acc):=o.mono f3.fl fun j hj=>f3.G9 j (o.lt hj) (fun e=>by have:=hid j hj;have:=hlo j (.inl e);omega) (fun e=>by have:=hid j hj;have:=hlo j (.inr e);omega)
     refine⟨h3,yP 700 S2,v, ?_,f2,fr.trans f3,.inr ⟨.inr hgt,he3,rfl,o3⟩⟩
     simp only[I]at *
     simp only[go_sem,gf,ce,ln,w1,acO d1,f1,u9,q1,q2,q3,q4,q5]
   · have d1:¬(many:Int)<((acc.length+times:Nat):Int):=by omega
     obtain⟨e',h3,v3,q1,q2,q3,q4,q5,q6,q7,q8,q9⟩:=MM h0 he (yT cl) many n times ht times 0 acc h2 v (by omega) st fr o (by omega) hid hlo
     have q1':Lp AP.A [0,1,2,7,9,10,11] AP.f53L0 [(0,.aH c.f 0),(1,yT cl),(2,I many),(7,v),(9,I times),(10,I n),(11,I 0)] h2=some (.exit 3,e',h3):=q1
     clear q1
     refine⟨h3,S2,v3, ?_,q6,q7,.inl ⟨he,by omega,rfl,q8,q9⟩⟩
     simp only[I]at *
     simp only[go_sem,gf,ce,ln,w1,acL d1,u9,q1',q2,q3,q4,q5]
 · have ce:=wU he
   have he3:S2.e=700:=by rcases he2 with q|q;exact absurd q he;exact q
   have hs:(times:Int)≤0∨((0:Int)<times∧S2.e≠0):=by
    by_cases q:0<times
    · exact .inr ⟨by omega,he⟩
    · exact .inl (by omega)
   obtain⟨e',q1,q2,q3,q4,q5⟩:=IH st (yT cl) many times n v 0 hs
   refine⟨h2,S2,v, ?_,st,fr,.inr ⟨.inl he,he3,rfl,o⟩⟩
   simp only[I]at *
   simp only[go_sem,gf,ce,ln,w1,u9,q1,q2,q3,q4,q5]
theorem H8 {c : FC} (h0 : H) (cl : List Int) (hcl : cl.length < 1000) (many : Nat) (hm : many ≤ 400) : ∀ (f : Nat) (acc : List Int) (S : SS) (h : H) (ov v : AV), Ft c S h ov → S.e = 0 → 8 * c.text.size < S.at_ + f → FF c h0 ov h ov → pK h v (ints acc) → acc.length ≤ many → (∀ j, v.id? = some j → h0.next ≤ j) → (∀ j, (j = c.f ∨ ov.id? = some j) → j < h0.next) →
 ∃ h' S', Ft c S' h' ov ∧ FF c h0 ov h' ov ∧ match zg c.text cl many f acc S.at_ with
   |some (L,p)=>S'={S with at_:=p}∧L.length=many∧∃e' v',Lp AP.A [0,1,2,7] AP.f53L1 [(0,.aH c.f 0),(1,yT cl),(2,I many),(7,v)] h=some (.exit 0,e',h')∧look e' 7=v'∧pK h' v' (ints L)∧∀j,v'.id?=some j→h0.next≤j
   |none=>S'.e=700∧((∃e' v',Lp AP.A [0,1,2,7] AP.f53L1 [(0,.aH c.f 0),(1,yT cl),(2,I many),(7,v)] h=some (.exit 0,e',h')∧look e' 7=v')∨∃e',Lp AP.A [0,1,2,7] AP.f53L1 [(0,.aH c.f 0),(1,yT cl),(2,I many),(7,v)] h=some (.ret,e',h')∧look e' 6=.aT)
 |0,acc,S,h,ov,v,st,he,hk,fr,oa,hal,hid,hlo=>by have:=st.Av;omega
 | f + 1, acc, S, h, ov, v, st, he, hk, fr, oa, hal, hid, hlo => by
   by_cases hlt:acc.length<many
   · rw [zg, if_pos hlt]
     have gf:=st.gf
     rw[he]at gf
     have ln:=oa.len
     rw[rY]at ln
     have c1:(acc.length:Int)<many:=by omega
     obtain⟨h1,S1,y,s1,s2,s3,s4⟩:=GF cl hcl st he
     have gf1:=s2.gf
     cases hz:Bm c.text cl 15 1 0 S.at_ with
     | none =>
       rw[hz]at s4
       obtain⟨s4,s5⟩:=s4
       have ce:(S1.e !=0)=true:=wX (by rw[s4];decide)
       refine⟨h1,S1,s2,fr.trans s3,s4,.inr ⟨[(6,.aT)],wD ?_,rfl⟩⟩
       simp only[I]at *
       simp only[AP.f53L1,go_sem,ln,acO c1,gf,s1,gf1,ce]
     | some yp =>
       obtain⟨z,p1⟩:=yp
       rw[hz]at s4
       obtain⟨s4,s5⟩:=s4
       subst s5 s4
       have zb:=B6 hz
       dsimp only at gf1 ⊢
       rw[he]at gf1
       have fr1:=fr.trans s3
       have hneq:∀i,v.id?=some i→i≠c.f∧ov.id?≠some i:=fun i hi=>by
        have:=hid i hi
        exact⟨fun e=>by have:=hlo i (.inl e);omega,fun e=>by have:=hlo i (.inr e);omega⟩
       have oa1:pK h1 v (ints acc):=oa.mono s3.fl fun i hi=>s3.G9 i (oa.lt hi) (hneq i hi).1 (hneq i hi).2
       have ln1:=oa1.len
       rw[rY]at ln1
       have fin:∀(n:Int) (times:Nat) (h2:H) (S2:SS),times≤1000→Ft c S2 h2 ov→FF c h0 ov h2 ov→pK h2 v (ints acc)→(S2.e=0∨S2.e=700)→(∀code h3 v3,code=(aK.seq (.seq (.qU [⟨(some 59),.mv (.t 0),none⟩,⟨(some 60),.qp (.t 59),none⟩,⟨(some 61),.qe 4 (.t 60),none⟩,⟨(some 62),.load false 1 (.t 61),none⟩,⟨(some 63),.bin .eql (.t 62) (.c (.int .i64 0)),none⟩,⟨(some 64),.mv (.t 63),none⟩,⟨(some 65),.mv (.t 7),(some (64,true))⟩,⟨(some 66),.len false (.t 65),(some (64,true))⟩,⟨(some 67),.mv (.t 9),(some (64,true))⟩,⟨(some 68),.bin .add (.t 66) (.t 67),(some (64,true))⟩,⟨(some 69),.mv (.t 2),(some (64,true))⟩,⟨(some 70),.bin .gtr (.t 68) (.t 69),(some (64,true))⟩,⟨(some 71),.pick (.t 64) (.t 70) (.c (.bool false)),none⟩] [0,1,2,7,9,10,71]) (.cond (.t 71) (.qU [⟨(some 72),.mv (.t 0),none⟩,⟨(some 73),.call (.c (.fn 25 [] [])) [(.t 72)],none⟩] [0,1,2,7,9,10]) (.skip) [0,1,2,7,9,10])) (.seq (.qU [⟨(some 11),.mv (.c (.int .i64 0)),none⟩] [0,1,2,7,9,10,11]) (.block 3 (.loop [0,1,2,7,9,10,11] AP.f53L0) [0,1,2,7])))→aP (aV AP.A) bL code [(0,.aH c.f 0),(1,yT cl),(2,I many),(7,v),(9,I times),(10,I n)] h2=some (.normal,[(0,.aH c.f 0),(1,yT cl),(2,I many),(7,v3)],h3)→
        aP (aV AP.A) bL AP.f53L1 (aC [(0,.aH c.f 0),(1,yT cl),(2,I many),(7,v)] [0,1,2,7]) h=some (.normal,[(0,.aH c.f 0),(1,yT cl),(2,I many),(7,v3)],h3))→
        (match zE c.text y acc p1 with|some q=>S2={S with at_:=q.2.2}∧n=q.1∧times=q.2.1∧p1≤q.2.2|none=>S2.e=700)→
        ∃ h' S', Ft c S' h' ov ∧ FF c h0 ov h' ov ∧ match (match zE c.text y acc p1 with | none => none | some (n, times, p2) => zg c.text cl many f (acc ++ List.replicate times n) p2) with
          |some (L,p)=>S'={S with at_:=p}∧L.length=many∧∃e' v',Lp AP.A [0,1,2,7] AP.f53L1 [(0,.aH c.f 0),(1,yT cl),(2,I many),(7,v)] h=some (.exit 0,e',h')∧look e' 7=v'∧pK h' v' (ints L)∧∀j,v'.id?=some j→h0.next≤j
          |none=>S'.e=700∧((∃e' v',Lp AP.A [0,1,2,7] AP.f53L1 [(0,.aH c.f 0),(1,yT cl),(2,I many),(7,v)] h=some (.exit 0,e',h')∧look e' 7=v')∨∃e',Lp AP.A [0,1,2,7] AP.f53L1 [(0,.aH c.f 0),(1,yT cl),(2,I many),(7,v)] h=some (.ret,e',h')∧look e' 6=.aT):=by
        intro n times h2 S2 ht st2 fr2 o2 he2 hstep hag
        obtain⟨h3,S3,v3,t1,t2,t3,t4⟩:=NQ h0 cl many hm st2 fr2 o2 hlt hid hlo n times ht he2 _ rfl
        have step:=hstep _ h3 v3 rfl t1
        cases ha:zE c.text y acc p1 with
        | none =>
          rw[ha]at hag
          dsimp only at hag ⊢
          rcases t4 with ⟨t5,_⟩|⟨_,t6,t7,t8⟩
          · rw[hag]at t5;exact absurd t5 (by decide)
          · subst t7
            obtain⟨e',q1,q2⟩:=EZ t2 (yT cl) many t8 (.inr ⟨hlt,by rw[t6];decide⟩)
            exact⟨h3,S3,t2,t3,t6,.inl ⟨e',v3,vX step q1,q2⟩⟩
        | some q =>
          obtain⟨n2,t2',p2⟩:=q
          rw[ha]at hag
          obtain⟨g1,g2,g3,g4⟩:=hag
          dsimp only at g1 g2 g3 g4 ⊢
          subst g1 g2 g3
          have hle2:=st2.Av
          dsimp only at hle2
          rcases t4 with ⟨t5,t6,t7,t8,t9⟩|⟨t5,t6,t7,t8⟩
          · subst t7
            obtain⟨h',S',r1,r2,r3⟩:=H8 h0 cl hcl many hm f (acc++List.replicate times n) _ h3 ov v3 t2 he (by dsimp only;omega) t3 t8 (by simp;omega) t9 hlo
            refine⟨h',S',r1,r2, ?_⟩
            dsimp only at r3
            cases hL:zg c.text cl many f (acc++List.replicate times n) p2 with
            | some q =>
              rw[hL]at r3
              obtain⟨r4,r5,e',v',r6,r7⟩:=r3
              exact⟨r4,r5,e',v',vX step r6,r7⟩
            | none =>
              rw[hL]at r3
              obtain⟨r4,r5⟩:=r3
              refine⟨r4, ?_⟩
              rcases r5 with ⟨e',v',r6,r7⟩|⟨e',r6,r7⟩
              · exact .inl ⟨e',v',vX step r6,r7⟩
              · exact .inr ⟨e',vX step r6,r7⟩
          · have hgt:many<acc.length+times:=by
             rcases t5 with q|q
             · exact absurd he q
             · exact q
            have hnone:zg c.text cl many f (acc++List.replicate times n) p2=none:=by
             obtain⟨f',rfl⟩:∃f',f=f'+1:=⟨f-1,by omega⟩
             rw[zg,if_neg (by simp;omega),if_pos (by simp;omega)]
            rw[hnone]
            dsimp only
            subst t7
            obtain⟨e',q1,q2⟩:=EZ t2 (yT cl) many t8 (.inr ⟨hlt,by rw[t6];decide⟩)
            exact⟨h3,S3,t2,t3,t6,.inl ⟨e',v3,vX step q1,q2⟩⟩
       have ne0:((0:Int) !=0)=false:=rfl
       by_cases h16:y=16
       · have d16:=wV h16
         by_cases hn:acc=[]
         · obtain⟨h2,f1,f2,f3⟩:=B7 s2
           have hag:zE c.text y acc p1=none:=by unfold zE;rw[if_pos h16,if_pos hn]
           rw[hag]
           have hz0:((acc.length:Int)==0)=true:=by rw[hn];rfl
           refine⟨h2,_,f2,fr1.trans f3,by simp [yP,he],.inr ⟨[(6,.aT)],wD ?_,rfl⟩⟩
           simp only[I]at *
           simp only[AP.f53L1,go_sem,ln,acO c1,gf,s1,gf1,ne0,d16,ln1,hz0,f1]
         · have hpos:0<acc.length:=adx.2 hn
           have hz0:((acc.length:Int)==0)=false:=wU (by omega)
           have w2:IntKind.wrap .i64 ((acc.length:Int)-1)=((acc.length-1:Nat):Int):=by
            rw[show(acc.length:Int)-1=((acc.length-1:Nat):Int)by omega];exact yB (by omega)
           have hel:=Ey (l:=acc) (i:=acc.length-1) (by omega)
           obtain⟨id,i1,i2,i3⟩:=oa1.elem hel
           obtain⟨h2,k1,k2,k3⟩:=Bx s2 2 2 rfl (by omega)
           have hgl:(yY c 2 {S with at_:=p1}).1<4:=by
            unfold yY;split
            · simpa using zo c.text p1 2
            · simp
           have w3:IntKind.wrap .i64 (3+((yY c 2 {S with at_:=p1}).1:Int))=((3+(yY c 2 {S with at_:=p1}).1:Nat):Int):=yB (n:=3+_) (by omega)
           have o2:pK h2 v (ints acc):=oa1.mono k3.fl fun i hi=>k3.G9 i (oa1.lt hi) (hneq i hi).1 (hneq i hi).2
           refine fin (acc.getD (acc.length-1) 0) (3+(yY c 2 {S with at_:=p1}).1) h2 _ (by omega) k2 (fr1.trans k3) o2 (GG c 2 _ (.inl he)) ?_ ?_
           · intro code h3 v3 hc hev
             clear fin i1
             generalize (yY c 2 {S with at_:=p1}).1=G at *
             unfold AP.f53L1
             rw[hc]at hev
             simp only[I]at *
             simp only[uT,pM,sJ,vB,go_sem,ln,acO c1,gf,s1,gf1,ne0,d16,ln1,hz0,w2,i2,i3,hel,k1,w3]
             simp only[uT,pM,sJ,vB,go_sem]at hev
             simp only[hev,go_sem]
           · by_cases hp:p1+2≤8* c.text.size
             · have hag:zE c.text y acc p1=some (acc.getD (acc.length-1) 0,3+yI c.text p1 2,p1+2):=by unfold zE;rw[if_pos h16,if_neg hn,if_pos hp]
               rw[hag]
               have eg:yY c 2 {S with at_:=p1}=(yI c.text p1 2,{S with at_:=p1+2}):=by rw[yY,if_pos hp]
               rw[eg]
               exact⟨rfl,rfl,rfl,by show p1≤p1+2;omega⟩
             · have hag:zE c.text y acc p1=none:=by unfold zE;rw[if_pos h16,if_neg hn,if_neg hp]
               rw[hag]
               have eg:yY c 2 {S with at_:=p1}=(0,{S with at_:=p1,e:=700}):=by rw[yY,if_neg hp,yP,if_pos he]
               rw[eg]
       · have d16:=wU h16
         by_cases h17:y=17
         · have d17:=wV h17
           obtain⟨h2,k1,k2,k3⟩:=Bx s2 3 3 rfl (by omega)
           have hgl:(yY c 3 {S with at_:=p1}).1<8:=by
            unfold yY;split
            · simpa using zo c.text p1 3
            · simp
           have w3:IntKind.wrap .i64 (3+((yY c 3 {S with at_:=p1}).1:Int))=((3+(yY c 3 {S with at_:=p1}).1:Nat):Int):=yB (n:=3+_) (by omega)
           have o2:pK h2 v (ints acc):=oa1.mono k3.fl fun i hi=>k3.G9 i (oa1.lt hi) (hneq i hi).1 (hneq i hi).2
           refine fin 0 (3+(yY c 3 {S with at_:=p1}).1) h2 _ (by omega) k2 (fr1.trans k3) o2 (GG c 3 _ (.inl he)) ?_ ?_
           · intro code h3 v3 hc hev
             clear fin
             generalize (yY c 3 {S with at_:=p1}).1=G at *
             unfold AP.f53L1
             rw[hc]at hev
             simp only[I]at *
             simp only[uT,pM,sJ,vB,go_sem,ln,acO c1,gf,s1,gf1,ne0,d16,d17,k1,w3]
             simp only[uT,pM,sJ,vB,go_sem]at hev
             simp only[hev,go_sem]
           · by_cases hp:p1+3≤8* c.text.size
             · have hag:zE c.text y acc p1=some (0,3+yI c.text p1 3,p1+3):=by unfold zE;rw[if_neg h16,if_pos h17,if_pos hp]
               rw[hag]
               have eg:yY c 3 {S with at_:=p1}=(yI c.text p1 3,{S with at_:=p1+3}):=by rw[yY,if_pos hp]
               rw[eg]
               exact⟨rfl,rfl,rfl,by show p1≤p1+3;omega⟩
             · have hag:zE c.text y acc p1=none:=by unfold zE;rw[if_neg h16,if_pos h17,if_neg hp]
               rw[hag]
               have eg:yY c 3 {S with at_:=p1}=(0,{S with at_:=p1,e:=700}):=by rw[yY,if_neg hp,yP,if_pos he]
               rw[eg]
         · have d17:=wU h17
           by_cases h18:y=18
           · have d18:=wV h18
             obtain⟨h2,k1,k2,k3⟩:=Bx s2 7 7 rfl (by omega)
             have hgl:(yY c 7 {S with at_:=p1}).1<128:=by
              unfold yY;split
              · simpa using zo c.text p1 7
              · simp
             have w3:IntKind.wrap .i64 (11+((yY c 7 {S with at_:=p1}).1:Int))=((11+(yY c 7 {S with at_:=p1}).1:Nat):Int):=yB (n:=11+_) (by omega)
             have o2:pK h2 v (ints acc):=oa1.mono k3.fl fun i hi=>k3.G9 i (oa1.lt hi) (hneq i hi).1 (hneq i hi).2
             refine fin 0 (11+(yY c 7 {S with at_:=p1}).1) h2 _ (by omega) k2 (fr1.trans k3) o2 (GG c 7 _ (.inl he)) ?_ ?_
             · intro code h3 v3 hc hev
               clear fin
               generalize (yY c 7 {S with at_:=p1}).1=G at *
               unfold AP.f53L1
               rw[hc]at hev
               simp only[I]at *
               simp only[uT,pM,sJ,vB,go_sem,ln,acO c1,gf,s1,gf1,ne0,d16,d17,d18,k1,w3]
               simp only[uT,pM,sJ,vB,go_sem]at hev
               simp only[hev,go_sem]
             · by_cases hp:p1+7≤8* c.text.size
               · have hag:zE c.text y acc p1=some (0,11+yI c.text p1 7,p1+7):=by unfold zE;rw[if_neg h16,if_neg h17,if_pos h18,if_pos hp]
                 rw[hag]
                 have eg:yY c 7 {S with at_:=p1}=(yI c.text p1 7,{S with at_:=p1+7}):=by rw[yY,if_pos hp]
                 rw[eg]
                 exact⟨rfl,rfl,rfl,by show p1≤p1+7;omega⟩
               · have hag:zE c.text y acc p1=none:=by unfold zE;rw[if_neg h16,if_neg h17,if_pos h18,if_neg hp]
                 rw[hag]
                 have eg:yY c 7 {S with at_:=p1}=(0,{S with at_:=p1,e:=700}):=by rw[yY,if_neg hp,yP,if_pos he]
                 rw[eg]
           · have d18:=wU h18
             have hag:zE c.text y acc p1=some (y,1,p1):=by unfold zE;rw[if_neg h16,if_neg h17,if_neg h18]
             refine fin y 1 h1 _ (by omega) s2 fr1 oa1 (.inl he) ?_ (by rw[hag];exact⟨rfl,rfl,rfl,xQ _⟩)
             intro code h3 v3 hc hev
             clear fin hag
             unfold AP.f53L1
             rw[hc]at hev
             have hev':aP (aV AP.A) bL _ [(0,.aH c.f 0),(1,yT cl),(2,I many),(7,v),(9,I 1),(10,I y)] h1=_:=hev
             clear hev
             simp only[I]at *
             simp only[uT,pM,sJ,vB,go_sem,ln,acO c1,gf,s1,gf1,ne0,d16,d17,d18]
             simp only[uT,pM,sJ,vB,go_sem,ln,acO c1,gf,s1,gf1,ne0,d16,d17,d18]at hev'
             simp only[hev',go_sem]
   · have heq:acc.length=many:=by omega
     obtain⟨e',q1,q2⟩:=EZ st (yT cl) many oa (.inl (by omega))
     refine⟨h,S,st,fr, ?_⟩
     rw[zg,if_neg hlt,if_neg (by omega)]
     exact⟨rfl,heq,e',v,q1,q2,oa,hid⟩
def Le (c:FC):SC:=⟨0,0,c.text,c.most⟩
theorem TG (c:FC) (n:Nat) (S:SS):yY c n S=yL (Le c) n S:=(TF (Le c) c rfl n S).symm
theorem JG {c : FC} (a : Nat) (many : Nat) (hmany : many ≤ 19) (m2 m3 : AV) : ∀ (q p o : List Int) (S : SS) (h : H) (ov : AV), yK.take many = p ++ q → Ft c S h ov → ov.id? ≠ some a → a ≠ c.f → h.get a = some (ints o) → o.length = 19 → h.floor ≤ a →
 ∃ e' h', Lp AP.A [0, 2, 3, 4, 5, 6, 7] AP.f24L0 [(0, .aH c.f 0), (2, m2), (3, m3), (4, I many), (5, .aI a 0 19 1), (6, zj yK), (7, I p.length)] h = some (.exit 0, e', h') ∧ look e' 0 = .aH c.f 0 ∧ look e' 2 = m2 ∧ look e' 3 = m3 ∧ look e' 5 = .aI a 0 19 1 ∧
   Ft c (Cq (Le c) q o S).2 h' ov∧h'.get a=some (ints (Cq (Le c) q o S).1)∧h'.floor=h.floor∧h.next≤h'.next∧∀i,i<h.next→i≠c.f→ov.id?≠some i→i≠a→h'.get i=h.get i
 | [], p, o, S, h, ov, hp, st, hoa, hac, hg, ho, hf => by
   have hlen:p.length=many:=by
    have:=adu List.length hp
    rw[adl,acU]at this
    have h2:yK.length=19:=rfl
    omega
   refine⟨[(0,.aH c.f 0),(2,m2),(3,m3),(4,I many),(5,.aI a 0 19 1),(6,zj yK),(7,I p.length),(37,.bool false)],h,vW ?_,rfl,rfl,rfl,rfl,st,hg,rfl,xQ _,fun _ _ _ _ _=>rfl⟩
   have c1:¬(p.length:Int)<(many:Int):=by omega
   simp only[I]at *
   simp only[AP.f24L0,go_sem,acL c1]
 | s :: q, p, o, S, h, ov, hp, st, hoa, hac, hg, ho, hf => by
   have h2l:yK.length=19:=rfl
   have hlen:p.length+(q.length+1)=many:=by
    have:=adu List.length hp
    rw[adl,yy,acN]at this
    omega
   have c1:(p.length:Int)<(many:Int):=by omega
   have hsm:s∈yK:=ads (i:=many) (by rw[hp];simp)
   have hs:=Dp s hsm
   obtain⟨sn,hsn⟩:∃n:Nat,s=n:=acS hs.1
   subst hsn
   have hv0:yK[p.length]?=some (sn:Int):=by
    have:(yK.take many)[p.length]?=some (sn:Int):=by rw[hp];simp
    rw[yx]at this
    split at this
    · exact this
    · cases this
   have hv:(ints yK)[p.length]?=some (I sn):=vG hv0
   have ia:ik 1 (zj yK) (I p.length)=some (.aO (ints yK) p.length):=by
    have:=mD (show p.length<yK.length by omega)
    simp only[ik,zj,if_true,this,xM,xW,ady]
   obtain⟨h1,k1,k2,k3⟩:=Bx st 3 3 rfl (by omega)
   rw[TG]at k1 k2
   have hal:a<h.next:=h.lt _ _ hg
   have hg1:h1.get a=some (ints o):=by rw[k3.G9 a hal hac hoa];exact hg
   have a1:ik 1 (.aI a 0 19 1) (I sn)=some (.aH a sn):=by simp [ik,mD (show sn<19 by omega)]
   have hset:(ints o).set sn (I ((yL (Le c) 3 S).1:Nat))=ints (o.set sn ((yL (Le c) 3 S).1:Nat)):=by simp [ints,List.map_set]
   have hst:wP h1 a sn 1 [I ((yL (Le c) 3 S).1:Nat)] (some (ints o))=some (h1.set a (ints (o.set sn ((yL (Le c) 3 S).1:Nat)))):=by
    rw[xm (by rw[k3.fl];exact hf) (by rw[rY];omega) rfl,hset]
   have w2:IntKind.wrap .i64 ((p.length:Int)+1)=(((p++[(sn:Int)]).length:Nat):Int):=by
    rw[yy];exact yB (n:=p.length+1) (by omega)
   have step:aP (aV AP.A) bL AP.f24L0 (aC [(0,.aH c.f 0),(2,m2),(3,m3),(4,I many),(5,.aI a 0 19 1),(6,zj yK),(7,I p.length)] [0,2,3,4,5,6,7]) h=some (.normal,[(0,.aH c.f 0),(2,m2),(3,m3),(4,I many),(5,.aI a 0 19 1),(6,zj yK),(7,I (p++[(sn:Int)]).length)],h1.set a (ints (o.set sn ((yL (Le c) 3 S).1:Nat)))):=by
    clear hset
    generalize ints (o.set sn ((yL (Le c) 3 S).1:Nat))=W at *
    generalize (p++[(sn:Int)]).length=B at *
    generalize (yL (Le c) 3 S).1=G at *
    generalize ints o=OO at *
    generalize zj yK=RO at *
    unfold AP.f24L0
    refine xc (e1:=[(0,.aH c.f 0),(2,m2),(3,m3),(4,I many),(5,.aI a 0 19 1),(6,RO),(7,I p.length)]) (h1:=h) ?_ ?_
    · simp only[I]at *
      simp only[go_sem,acO c1]
    refine xc (e1:=[(0,.aH c.f 0),(2,m2),(3,m3),(4,I many),(5,.aI a 0 19 1),(6,RO),(7,I p.length)]) (h1:=h1.set a W) ?_ ?_
    · rw[pM,Kx (e':=[(47,.aH a sn),(46,I G),(45,.aH c.f 0),(44,I sn),(43,.aO (ints yK) p.length),(42,I p.length),(41,RO),(40,.aI a 0 19 1),(0,.aH c.f 0),(2,m2),(3,m3),(4,I many),(5,.aI a 0 19 1),(6,RO),(7,I p.length)]) (h':=h1.set a W) (gs:=[h,h1,h1.set a W])]
      · simp only[go_sem]
      · simp only[I]at *
        simp only[Dn,GL,GH,GN,GM,cy.aS,go_sem,ia,hv,k1,a1,hg1,hst]
      · refine Dv (fun k hk=> ?_) rfl
        obtain rfl:k=1:=by simpa using hk
        refine Du (o:=⟨some 44,.load false 1 (.t 43),none⟩) (g:=h1) (h':=h1) (d:=44) (u:=I sn) rfl rfl rfl rfl ?_ ?_
        · simp only[aj,go_sem,hv]
        · simp only[go_sem,I,Hq]
    · simp only[I]at *
      simp only[go_sem,w2]
   have st2:Ft c (yL (Le c) 3 S).2 (h1.set a (ints (o.set sn ((yL (Le c) 3 S).1:Nat)))) ov:=k2.Ad (by simp) (by simp) fun i hi=>by
    rw[H.ee,if_neg]
    rintro rfl
    rcases hi with hi|hi
    · exact hac hi
    · exact hoa hi
   obtain⟨e',h',q1,q2,q3,q4,q5,q6,q7,q8,q9,q10⟩:=JG a many hmany m2 m3 q (p++[(sn:Int)]) (o.set sn ((yL (Le c) 3 S).1:Nat)) _ _ ov (by rw[hp];simp) st2 hoa hac (by rw[H.ee,if_pos rfl,hg1];rfl) (by simpa using ho) (by simp [k3.fl];exact hf)
   refine⟨e',h',vX step q1,q2,q3,q4,q5, ?_, ?_,by rw[q8];simp [k3.fl],by have:=k3.nx;simp at q9;omega,fun i i1 i2 i4 i5=> ?_⟩
   · rw[Cq];exact q6
   · rw[Cq];exact q7
   · rw[q10 i (by have:=k3.nx;simp;omega) i2 i4 i5,H.ee,if_neg i5,k3.G9 i i1 i2 i4]
theorem NP {c:FC} {S:SS} {h:H} {ov:AV} (cl:List Int) (hcl:cl.length<1000) (st:Ft c S h ov) (he:S.e=0) (many:Nat) (hm:many≤400):
 ∃ h' S' v, aV AP.A 53 [.aH c.f 0, yT cl, I many] h = some (v, h') ∧ Ft c S' h' ov ∧ FF c h ov h' ov ∧ match zg c.text cl many (8 * c.text.size + 1) [] S.at_ with
   |some (L,p)=>S'={S with at_:=p}∧L.length=many∧pK h' v (ints L)∧∀j,v.id?=some j→h.next≤j
   |none=>S'.e=700:=by
 obtain⟨h',S',q1,q2,q3⟩:=H8 h cl hcl many hm (8* c.text.size+1) [] S h ov .aT st he (by omega) (FF.refl _ _ _) (.inl ⟨rfl,rfl⟩) (by simp) (fun j q=>by cases q) (fun j hj=>st.lt hj)
 have close:∀e' v,Lp AP.A [0,1,2,7] AP.f53L1 [(0,.aH c.f 0),(1,yT cl),(2,I many),(7,.aT)] h=some (.exit 0,e',h')→look e' 7=v→aV AP.A 53 [.aH c.f 0,yT cl,I many] h=some (v,h'):=by
  intro e' v r1 r2
  refine wo (fn:=AP.f53) (e:=[(6,v)]) (vs:=[v]) rfl rfl rfl ?_ rfl
  simp only[I]at *
  simp only[AP.f53,go_sem,u9,r1,r2]
 cases hL:zg c.text cl many (8* c.text.size+1) [] S.at_ with
 | some q =>
   rw[hL]at q3
   obtain⟨r1,r2,e',v',r3,r4,r5,r6⟩:=q3
   exact⟨h',S',v',close e' v' r3 r4,q1,q2,r1,r2,r5,r6⟩
 | none =>
   rw[hL]at q3
   obtain⟨r1,⟨e',v',r3,r4⟩|⟨e',r3,r4⟩⟩:=q3
   · exact⟨h',S',v',close e' v' r3 r4,q1,q2,r1⟩
   · refine⟨h',S',.aT, ?_,q1,q2,r1⟩
     refine wo (fn:=AP.f53) (e:=e') (vs:=[.aT]) rfl rfl rfl ?_ (by simp only[AP.f53,dh,pB,r4];rfl)
     simp only[I]at *
     simp only[AP.f53,go_sem,u9,r3]
theorem NH (t:ByteArray) (most:Int) (out:List Nat) {p:Nat} (hp:¬p+14≤8* t.size):Ho t most p out=.error 700:=by
 unfold Ho
 split
 · dsimp only
   split
   · rfl
   · have:∀m,B9 t m (p+10)=none:=fun m=>by rw[B9,if_neg (by omega)]
     rw[this]
 · rfl
theorem NL {c : FC} {S : SS} {h : H} {ov : AV} (st : Ft c S h ov) (he : S.e = 0) :
 ∃h' ov' S',aV AP.A 24 [.aH c.f 0] h=some (.cf [],h')∧Ft c S' h' ov'∧FF c h ov h' ov'∧Fin (Ho c.text c.most S.at_ S.out) S':=by
 obtain⟨h1,a1,a2,a3⟩:=Bx st 5 5 rfl (by omega)
 obtain⟨h2,b1,b2,b3⟩:=Bx a2 5 5 rfl (by omega)
 obtain⟨h3,d1,d2,d3⟩:=Bx b2 4 4 rfl (by omega)
 obtain⟨A,hA⟩:∃n,n=(yY c 5 S).1:=⟨_,rfl⟩
 obtain⟨S1,hS1⟩:∃n,n=(yY c 5 S).2:=⟨_,rfl⟩
 rw[←hA]at a1;rw[←hS1]at a2 b1 b2 d1 d2
 obtain⟨B,hB⟩:∃n,n=(yY c 5 S1).1:=⟨_,rfl⟩
 obtain⟨S2,hS2⟩:∃n,n=(yY c 5 S1).2:=⟨_,rfl⟩
 rw[←hB]at b1;rw[←hS2]at b2 d1 d2
 obtain⟨C,hC⟩:∃n,n=(yY c 4 S2).1:=⟨_,rfl⟩
 obtain⟨S3,hS3⟩:∃n,n=(yY c 4 S2).2:=⟨_,rfl⟩
 rw[←hC]at d1;rw[←hS3]at d2
 have g5:∀S,(yY c 5 S).1<32:=fun S=>by
  unfold yY;split
  · simpa using zo c.text S.at_ 5
  · simp
 have hA32:A<32:=hA ▸ g5 S
 have hB32:B<32:=hB ▸ g5 S1
 have hC16:C<16:=by
  rw[hC];unfold yY;split
  · simpa using zo c.text S2.at_ 4
  · simp
 have w1:IntKind.wrap .i64 (257+(A:Int))=((A+257:Nat):Int):=by rw[show 257+(A:Int)=((A+257:Nat):Int)by omega];exact yB (by omega)
 have w2:IntKind.wrap .i64 (1+(B:Int))=((B+1:Nat):Int):=by rw[show 1+(B:Int)=((B+1:Nat):Int)by omega];exact yB (by omega)
 have w3:IntKind.wrap .i64 (4+(C:Int))=((C+4:Nat):Int):=by rw[show 4+(C:Int)=((C+4:Nat):Int)by omega];exact yB (by omega)
 have gf3:=d2.gf
 have he3:S3.e=0∨S3.e=700:=by rw[hS3];exact GG c 4 _ (by rw[hS2];exact GG c 5 _ (by rw[hS1];exact GG c 5 S (.inl he)))
 have fr3:=(a3.trans b3).trans d3
 have bad:(S3.e≠0∨286<A+257∨30<B+1)→∃h' ov' S',aV AP.A 24 [.aH c.f 0] h=some (.cf [],h')∧Ft c S' h' ov'∧FF c h ov h' ov'∧S'.e=700∧(700:Int)≠0:=by
  intro hb
  obtain⟨h4,f1,f2,f3⟩:=B7 d2
  refine⟨h4,ov,yP 700 S3, ?_,f2,fr3.trans f3,by rcases he3 with q|q<;>simp [yP,q],by decide⟩
  refine wo (fn:=AP.f24) (e:=[]) (vs:=[]) rfl rfl rfl ?_ rfl
  by_cases c1:S3.e=0
  · have c1':=wW c1
    by_cases c2:286<A+257
    · have c2':(286:Int)<((A+257:Nat):Int):=by omega
      simp only[I]at *
      simp only[AP.f24,go_sem,a1,b1,d1,w1,w2,w3,gf3,c1',acO c2',f1]
    · have c2':¬(286:Int)<((A+257:Nat):Int):=by omega
      have c3':(30:Int)<((B+1:Nat):Int):=by
       rcases hb with q|q|q
       · exact absurd c1 q
       · exact absurd q c2
       · omega
      simp only[I]at *
      simp only[AP.f24,go_sem,a1,b1,d1,w1,w2,w3,gf3,c1',acL c2',acO c3',f1]
  · have c1':=wX c1
    simp only[I]at *
    simp only[AP.f24,go_sem,a1,b1,d1,w1,w2,w3,gf3,c1',f1]
 by_cases hp:S.at_+14≤8* c.text.size
 · unfold Ho
   have e1:yY c 5 S=(yI c.text S.at_ 5,{S with at_:=S.at_+5}):=by rw[yY,if_pos (by omega)]
   rw[e1]at hA hS1;dsimp only at hA hS1
   have e2:yY c 5 {S with at_:=S.at_+5}=(yI c.text (S.at_+5) 5,{S with at_:=S.at_+5+5}):=by rw[yY,if_pos (by show S.at_+5+5≤_;omega)]
   rw[hS1,e2]at hB hS2;dsimp only at hB hS2
   have e3:yY c 4 {S with at_:=S.at_+5+5}=(yI c.text (S.at_+5+5) 4,{S with at_:=S.at_+5+5+4}):=by rw[yY,if_pos (by show S.at_+5+5+4≤_;omega)]
   rw[hS2,e3]at hC hS3;dsimp only at hC hS3
   rw[if_pos (show S.at_+10≤8* c.text.size by omega)]
   dsimp only
   rw[←hA,←hB]
   by_cases hbig:286<A+257∨30<B+1
   · rw[if_pos hbig];exact bad (.inr hbig)
   rw[if_neg hbig]
   have he30:S3.e=0:=by rw[hS3];exact he
   have hat3:S3.at_=S.at_+14:=by rw[hS3]
   have c1':(S3.e !=0)=false:=wW he30
   have c2':¬(286:Int)<((A+257:Nat):Int):=by omega
   have c3':¬(30:Int)<((B+1:Nat):Int):=by omega
   have w4:IntKind.wrap .i64 (((A+257:Nat):Int)+((B+1:Nat):Int))=((A+257+(B+1):Nat):Int):=by
    rw[show((A+257:Nat):Int)+((B+1:Nat):Int)=((A+257+(B+1):Nat):Int)by omega];exact yB (by omega)
   obtain⟨a,ha⟩:∃a,a=h3.next:=⟨_,rfl⟩
   obtain⟨g0,hg0⟩:∃g,g=h3.alloc (ints (List.replicate 19 0)):=⟨_,rfl⟩
   have al:=d2.alloc (ints (List.replicate 19 0))
   rw[←hg0]at al
   have hga:g0.get a=some (ints (List.replicate 19 0)):=by rw[hg0,H.bc,if_pos ha]
   have oc:=MA g0
   have bt:∀e:Env,bh e (.jR 1 8 [.int .i64 0] (.c (.int .i64 19)) (.c (.int .i64 19)))=some (ints (List.replicate 19 0),fun i=>.aI i 0 19 1):=fun _=>rfl
   have hac:a≠c.f:=fun e=>by have:=d2.lt (.inl e);omega
   have hoa:ov.id?≠some a:=fun e=>by have:=d2.lt (.inr e);omega
   obtain⟨e4,h4,l1,l2,l3,l4,l5,l6,l7,l8,l9,l10⟩:=JG (c:=c) a (C+4) (by omega) (I (A+257:Nat)) (I (B+1:Nat)) (yK.take (C+4)) [] (List.replicate 19 0) S3 g0 ov rfl al.1 hoa hac hga (by simp) (by rw[hg0,ha];simp;exact d2.nx)
   have l1':Lp AP.A [0,2,3,4,5,6,7] AP.f24L0 [(0,.aH c.f 0),(2,I (A+257:Nat)),(3,I (B+1:Nat)),(4,I (C+4:Nat)),(5,.aI a 0 19 1),(6,zj yK),(7,I 0)] g0=some (.exit 0,e4,h4):=l1
   clear l1
   have hn0:g0.next=h3.next+1:=by rw[hg0];simp
   have fr4:FF c h ov h4 ov:=by
    refine⟨by rw[l8,al.2.fl,fr3.fl], ?_,fun id i1 i2 i4=> ?_,fun i hi=>.inl hi⟩
    · have:=fr3.nx;omega
    · have:=fr3.nx
      rw[l10 id (by omega) i2 i4 (by omega),al.2.G9 id (by omega) i2 i4,fr3.G9 id i1 i2 i4]
   obtain⟨cl,hcl⟩:∃cl,cl=(Cq (Le c) (yK.take (C+4)) (List.replicate 19 0) S3).1:=⟨_,rfl⟩
   obtain⟨S4,hS4⟩:∃cl,cl=(Cq (Le c) (yK.take (C+4)) (List.replicate 19 0) S3).2:=⟨_,rfl⟩
   rw[←hS4]at l6;rw[←hcl]at l7
   have hcll:cl.length=19:=by rw[hcl,IA];simp
   have hol:(yK.take (C+4)).length=C+4:=by rw[adl];show min (C+4) 19=C+4;omega
   have jg:Rd h4 (.aI a 0 19 1) (ints cl):=by
    refine⟨?_,by intro s e;cases e⟩
    simp [aW,l7,hcll,yo]
   have ck:=FD h4 (.aI a 0 19 1) cl (by omega) jg
   have bk:=D3 h4 (.aI a 0 19 1) cl (by omega) jg
   have gf4:=l6.gf
   have he4:S4.e=0∨S4.e=700:=by rw[hS4];exact RX _ _ _ _ (.inl he30)
   have bad2:(S4.e≠0∨yV cl≠0)→∃h' ov' S',aV AP.A 24 [.aH c.f 0] h=some (.cf [],h')∧Ft c S' h' ov'∧FF c h ov h' ov'∧S'.e=700∧(700:Int)≠0:=by
    intro hb
    obtain⟨h5,f1,f2,f3⟩:=B7 l6
    refine⟨h5,ov,yP 700 S4, ?_,f2,fr4.trans f3,by rcases he4 with q|q<;>simp [yP,q],by decide⟩
    refine wo (fn:=AP.f24) (e:=[]) (vs:=[]) rfl rfl rfl ?_ rfl
    by_cases q1:S4.e=0
    · have q1':=wW q1
      have q2':(yV cl !=0)=true:=wX (by rcases hb with q|q;exact absurd q1 q;exact q)
      simp only[I]at *
      simp only[AP.f24,go_sem,a1,b1,d1,w1,w2,w3,gf3,c1',acL c2',acL c3',bt,←hg0,←ha,oc,u9,l1',l2,l3,l4,l5,gf4,q1',ck,q2',f1]
    · have q1':=wX q1
      simp only[I]at *
      simp only[AP.f24,go_sem,a1,b1,d1,w1,w2,w3,gf3,c1',acL c2',acL c3',bt,←hg0,←ha,oc,u9,l1',l2,l3,l4,l5,gf4,q1',f1]
   have hlens:B9 c.text (A+257+(B+1)) (S.at_+10)=if S.at_+14+3* (C+4)≤8* c.text.size then(if yV (Hp c.text (yK.take (C+4)) (S.at_+14) (List.replicate 19 0))=0 then zg c.text (Hp c.text (yK.take (C+4)) (S.at_+14) (List.replicate 19 0)) (A+257+(B+1)) (8* c.text.size+1) [] (S.at_+14+3* (C+4))else none)else none:=by
    have hC':yI c.text (S.at_+10) 4=C:=hC.symm
    unfold B9
    rw[if_pos (show S.at_+10+4≤8* c.text.size by omega)]
    dsimp only
    rw[hC',show S.at_+10+4=S.at_+14 by omega]
   by_cases hp2:S.at_+14+3* (C+4)≤8* c.text.size
   · have ok := KZ (Le c) (yK.take (C + 4)) (List.replicate 19 0) S3 he30 (by rw [hol, hat3]; exact hp2)
     rw[ok]at hcl hS4
     dsimp only at hcl hS4
     rw[hol]at hS4
     rw[hat3]at hcl
     have hcl':cl=Hp c.text (yK.take (C+4)) (S.at_+14) (List.replicate 19 0):=hcl
     rw[if_pos hp2,←hcl']at hlens
     by_cases hck:yV cl=0
     · rw [if_pos hck] at hlens
       have he40:S4.e=0:=by rw[hS4];exact he30
       have hat4:S4.at_=S.at_+14+3* (C+4):=by rw[hS4];show S3.at_+3* (C+4)=_;rw[hat3]
       have q1':=wW he40
       have q2':=wW hck
       obtain⟨h5,S5,av,m1,m2,m3,m4⟩:=NP cl (by omega) l6 he40 (A+257+(B+1)) (by omega)
       have gf5:=m2.gf
       rw[hat4]at m4
       rw[hlens]
       cases hL:zg c.text cl (A+257+(B+1)) (8* c.text.size+1) [] (S.at_+14+3* (C+4))with
       | none =>
         rw[hL]at m4
         have q3':(S5.e !=0)=true:=wX (by rw[m4];decide)
         refine⟨h5,ov,S5, ?_,m2,fr4.trans m3,m4,by decide⟩
         refine wo (fn:=AP.f24) (e:=[(0,.aH c.f 0),(2,I (A+257:Nat)),(8,av),(71,.bool true)]) (vs:=[]) rfl rfl rfl ?_ rfl
         simp only[I]at *
         simp only[AP.f24,go_sem,a1,b1,d1,w1,w2,w3,gf3,c1',acL c2',acL c3',bt,←hg0,←ha,oc,u9,l1',l2,l3,l4,l5,gf4,q1',ck,q2',bk,w4,m1,gf5,q3']
       | some q =>
         obtain⟨L,p2⟩:=q
         rw[hL]at m4
         obtain⟨m4,m5,m6,m7⟩:=m4
         have he5:S5.e=0:=by rw[m4];exact he40
         have q3':=wW he5
         have hrng:BA L:=JT (t:=c.text) (many:=A+257+(B+1)) (p:=S.at_+10) (p2:=p2) (by rw[hlens,hL])
         dsimp only
         obtain⟨id,hav,hgid⟩:∃id,av=.aI id 0 (A+257+(B+1)) 1∧h5.get id=some (ints L):=by
          rcases m6 with ⟨_,q⟩|⟨id,q1,q2,_⟩
          · have:=adu List.length q;rw[rY,m5,acP]at this;omega
          · exact⟨id,by rw[q1,rY,m5],q2⟩
         have hil:(ints L).length=A+257+(B+1):=by rw[rY,m5]
         have s1:=Kz (h:=h5) (k:=A+257) hgid hil (xQ _) (by omega)
         have s2:=Nr (h:=h5) (k:=A+257) hgid hil (by omega)
         rw[show A+257+(B+1)-(A+257)=B+1 by omega]at s2
         rw[←hav]at s1 s2
         obtain⟨la,hla⟩:∃x,x=L.take (A+257):=⟨_,rfl⟩
         obtain⟨lb,hlb⟩:∃x,x=L.drop (A+257):=⟨_,rfl⟩
         have hlal:la.length=A+257:=by rw[hla,adl];omega
         have hlbl:lb.length=B+1:=by rw[hlb,List.length_drop];omega
         have ra:Rd h5 (.aI id 0 (A+257) 1) (ints la):=by
          refine⟨?_,by intro s e;cases e⟩
          simp only[aW,if_true,hgid,xM]
          rw[if_pos (by rw[hil];omega),hla];simp [ints,List.map_take];omega
         have rb:Rd h5 (.aI id (A+257) (B+1) 1) (ints lb):=by
          refine⟨?_,by intro s e;cases e⟩
          simp only[aW,if_true,hgid,xM]
          rw[if_pos (by rw[hil];omega),hlb]
          have:(ints (L.drop (A+257))).length=B+1:=by rw[rY,←hlb,hlbl]
          rw[this,ints,ints,←List.map_drop,ady,yo (by rw[acV,←hlb,hlbl];omega)]
         rw[←hla,←hlb]
         have cka:=FD h5 _ la (by omega) ra
         have ckb:=FD h5 _ lb (by omega) rb
         have hra:BA la:=fun y hy=>hrng y (ads (hla ▸ hy))
         have hrb:BA lb:=fun y hy=>hrng y (List.mem_of_mem_drop (hlb ▸ hy))
         have sgb:=Sk h5 _ lb (by omega) hrb rb
         have mka:=D3 h5 _ la (by omega) ra
         have mkb:=D3 h5 _ lb (by omega) rb
         have hel0:la.getD 256 0=L.getD 256 0:=by
          rw[hla,acM,acM,yx,if_pos (by omega)]
         have hel:=Ey (l:=L) (i:=256) (by omega)
         rw[←hel0]at hel
         obtain⟨id2,i1,i2,i3⟩:=m6.elem hel
         have i2':ik 1 av (I 256)=some (.aH id2 256):=i2
         clear i2
         by_cases hbad:yV la≠0∨la.getD 256 0=0∨(yV lb≠0∧zY lb=false)
         · rw [if_pos hbad]
           obtain⟨h6,f1,f2,f3⟩:=B7 m2
           refine⟨h6,ov,yP 700 S5, ?_,f2,(fr4.trans m3).trans f3,by simp [yP,he5],by decide⟩
           refine wo (fn:=AP.f24) (e:=[]) (vs:=[]) rfl rfl rfl ?_ rfl
           by_cases x1:yV la=0
           · have x1':=wW x1
             by_cases x2:la.getD 256 0=0
             · have x2':=wV x2
               simp only[I]at *
               simp only[AP.f24,go_sem,a1,b1,d1,w1,w2,w3,gf3,c1',acL c2',acL c3',bt,←hg0,←ha,oc,u9,l1',l2,l3,l4,l5,gf4,q1',ck,q2',bk,w4,m1,gf5,q3',acR,ac5,s1,s2,cka,x1',i2',i3,hel,x2',f1]
             · have x2':=wU x2
               obtain⟨x3,x4⟩:yV lb≠0∧zY lb=false:=by
                rcases hbad with q|q|q
                · exact absurd x1 q
                · exact absurd q x2
                · exact q
               have x3':=wX x3
               rw[x4]at sgb
               simp only[I]at *
               simp only[AP.f24,go_sem,a1,b1,d1,w1,w2,w3,gf3,c1',acL c2',acL c3',bt,←hg0,←ha,oc,u9,l1',l2,l3,l4,l5,gf4,q1',ck,q2',bk,w4,m1,gf5,q3',acR,ac5,s1,s2,cka,x1',i2',i3,hel,x2',ckb,x3',sgb,f1]
           · have x1':=wX x1
             simp only[I]at *
             simp only[AP.f24,go_sem,a1,b1,d1,w1,w2,w3,gf3,c1',acL c2',acL c3',bt,←hg0,←ha,oc,u9,l1',l2,l3,l4,l5,gf4,q1',ck,q2',bk,w4,m1,gf5,q3',acR,ac5,s1,s2,cka,x1',f1]
         · rw [if_neg hbad]
           have x1:yV la=0:=Decidable.byContradiction fun q=>hbad (.inl q)
           have x2:la.getD 256 0≠0:=fun q=>hbad (.inr (.inl q))
           have x1':=wW x1
           have x2':=wU x2
           obtain⟨h6,ov6,S6,r1,r2,r3,r4⟩:=LZ la lb (by omega) (by omega) m2 he5
           have last:aP (aV AP.A) bL (.jP [0,1,2,3,4,5,6,7,8,9] [⟨(some 99),.mv (.t 0),none⟩,⟨(some 100),.mv (.t 8),none⟩,⟨(some 101),.mv (.t 2),none⟩,⟨(some 102),.sl 1 (.t 100) none (some (.t 101)) none,none⟩,⟨(some 103),.call (.c (.fn 21 [] [])) [(.t 102)],none⟩,⟨(some 104),.mv (.t 8),none⟩,⟨(some 105),.mv (.t 2),none⟩,⟨(some 106),.sl 1 (.t 104) (some (.t 105)) none none,none⟩,⟨(some 107),.call (.c (.fn 21 [] [])) [(.t 106)],none⟩,⟨(some 108),.call (.c (.fn 20 [] [])) [(.t 99),(.t 103),(.t 107)],none⟩] [(7,[0])] []) [(0,.aH c.f 0),(2,I (A+257:Nat)),(8,av)] h5=some (.normal,[],h6):=by
            rw[Kx (e':=[(108,.cf []),(107,yT lb),(106,.aI id (A+257) (B+1) 1),(105,I (A+257:Nat)),(104,av),(103,yT la),(102,.aI id 0 (A+257) 1),(101,I (A+257:Nat)),(100,av),(99,.aH c.f 0),(0,.aH c.f 0),(2,I (A+257:Nat)),(8,av)]) (h':=h6) (gs:=[h5,h5,h5,h6])]
            · simp only[go_sem]
            · simp only[Dn,GL,GH,GN,GM,cy.aS,go_sem,acR,ac5,s1,s2,mka,mkb,r1]
            · refine Dv (fun k hk=> ?_) rfl
              obtain rfl:k=0:=by simpa using hk
              refine Du (o:=⟨some 106,.sl 1 (.t 104) (some (.t 105)) none none,none⟩) (g:=h5) (h':=h5) (d:=106) (u:=.aI id (A+257) (B+1) 1) rfl rfl rfl rfl ?_ ?_
              · simp only[aj,go_sem,acR,ac5,s2]
              · simp only[go_sem,Fv]
           refine⟨h6,ov6,S6, ?_,r2,(fr4.trans m3).trans r3, ?_⟩
           · refine zr (fn:=AP.f24) (e:=[]) (vs:=[]) rfl rfl rfl ?_ rfl
             by_cases x3:yV lb=0
             · have x3':=wW x3
               simp only[I]at *
               simp only[AP.f24,go_sem,a1,b1,d1,w1,w2,w3,gf3,c1',acL c2',acL c3',bt,←hg0,←ha,oc,u9,l1',l2,l3,l4,l5,gf4,q1',ck,q2',bk,w4,m1,gf5,q3',acR,ac5,s1,s2,cka,x1',i2',i3,hel,x2',ckb,x3',last]
             · have x3':=wX x3
               have x4:zY lb=true:=by
                cases hs:zY lb with
                |true=>rfl
                |false=>exact absurd (.inr (.inr ⟨x3,hs⟩)) hbad
               rw[x4]at sgb
               simp only[I]at *
               simp only[AP.f24,go_sem,a1,b1,d1,w1,w2,w3,gf3,c1',acL c2',acL c3',bt,←hg0,←ha,oc,u9,l1',l2,l3,l4,l5,gf4,q1',ck,q2',bk,w4,m1,gf5,q3',acR,ac5,s1,s2,cka,x1',i2',i3,hel,x2',ckb,x3',sgb,last]
           · have h1:S5.at_=p2:=by rw[m4]
             have h2:S5.out=S.out:=by rw[m4,hS4,hS3]
             rw[h1,h2]at r4;exact r4
     · rw[if_neg hck]at hlens
       rw[hlens]
       exact bad2 (.inr hck)
   · rw[if_neg hp2]at hlens
     rw[hlens]
     refine bad2 (.inl ?_)
     rw[hS4,Iz (Le c) _ _ S3 he30 (by rw[hat3];exact hp) (by rw[hol,hat3];show 8* c.text.size<_;omega)];decide
 · rw[NH c.text c.most S.out hp]
   refine bad (.inl ?_)
   rw[hS3,hS2,hS1]
   unfold yY
   by_cases q1:S.at_+5≤8* c.text.size
   · simp only[if_pos q1]
     by_cases q2:S.at_+5+5≤8* c.text.size
     · simp only[if_pos q2];rw[if_neg (by omega)];simp [yP,he]
     · simp only[if_neg q2,yP,he,if_true];split<;>simp
   · simp only[if_neg q1,yP,he,if_true]
     split
     · split<;>simp
     · simp;split<;>simp
theorem JC {c:FC} {S:SS} {h:H} {ov:AV} (st:Ft c S h ov) (b:Int) (hs:b≠0∨(b=0∧S.e≠0)):
 ∃e',Lp AP.A [7,8] AP.f8L0 [(7,.aH c.f 0),(8,I b)] h=some (.exit 0,e',h)∧look e' 7=.aH c.f 0:=by
 have gf:=st.gf
 refine⟨[(7,.aH c.f 0),(29,.bool false)],vW ?_,rfl⟩
 rcases hs with hb|⟨hb,he⟩
 · have c1:=wU hb
   simp only[I]at *
   simp only[AP.f8L0,go_sem,c1]
 · have c1:=wV hb
   have c2:=wU he
   simp only[I]at *
   simp only[AP.f8L0,go_sem,c1,gf,c2]
theorem JB {c : FC} : ∀ (f : Nat) (S : SS) (h : H) (ov : AV), Ft c S h ov → S.e = 0 → 8 * c.text.size < S.at_ + f →
 ∃e' h' ov' S',Lp AP.A [7,8] AP.f8L0 [(7,.aH c.f 0),(8,I 0)] h=some (.exit 0,e',h')∧look e' 7=.aH c.f 0∧Ft c S' h' ov'∧FF c h ov h' ov'∧Fin (AR c.text c.most f S.at_ S.out) S'
 |0,S,h,ov,st,he,hk=>by have:=st.Av;omega
 | f + 1, S, h, ov, st, he, hk => by
   have gf:=st.gf
   rw[he]at gf
   obtain⟨h1,a1,a2,a3⟩:=Bx st 1 1 rfl (by omega)
   obtain⟨h2,b1,b2,b3⟩:=Bx a2 2 2 rfl (by omega)
   obtain⟨A,hA⟩:∃n,n=(yY c 1 S).1:=⟨_,rfl⟩
   obtain⟨S1,hS1⟩:∃n,n=(yY c 1 S).2:=⟨_,rfl⟩
   rw[←hA]at a1;rw[←hS1]at a2 b1 b2
   obtain⟨B,hB⟩:∃n,n=(yY c 2 S1).1:=⟨_,rfl⟩
   obtain⟨S2,hS2⟩:∃n,n=(yY c 2 S1).2:=⟨_,rfl⟩
   rw[←hB]at b1;rw[←hS2]at b2
   have gf2:=b2.gf
   have fr2:=a3.trans b3
   rw[AR]
   unfold Bs
   by_cases hp:S.at_+3≤8* c.text.size
   · rw [if_pos hp]
     have e1:yY c 1 S=(yI c.text S.at_ 1,{S with at_:=S.at_+1}):=by rw[yY,if_pos (by omega)]
     rw[e1]at hA hS1;dsimp only at hA hS1
     have e2:yY c 2 {S with at_:=S.at_+1}=(yI c.text (S.at_+1) 2,{S with at_:=S.at_+1+2}):=by rw[yY,if_pos (by show S.at_+1+2≤_;omega)]
     rw[hS1,e2]at hB hS2;dsimp only at hB hS2
     have he2:S2.e=0:=by rw[hS2];exact he
     have hat:S2.at_=S.at_+3:=by rw[hS2]
     have hout:S2.out=S.out:=by rw[hS2]
     have hA2:A<2:=by rw[hA];simpa using zo c.text S.at_ 1
     dsimp only
     rw[←hA,←hB]
     have ce:=wW he2
     have n0:((0:Int)==0)=true:=rfl
     have z0:((0:Int)==0)=true:=rfl
     have close:∀(r:Rs) (h':H) (ov':AV) (S':SS),aP (aV AP.A) bL AP.f8L0 (aC [(7,.aH c.f 0),(8,I 0)] [7,8]) h=some (.normal,[(7,.aH c.f 0),(8,I A)],h')→Ft c S' h' ov'→FF c h2 ov h' ov'→Fin r S'→(∀q,r=.ok q→S.at_<q.1)→
      ∃e' h' ov' S',Lp AP.A [7,8] AP.f8L0 [(7,.aH c.f 0),(8,I 0)] h=some (.exit 0,e',h')∧look e' 7=.aH c.f 0∧Ft c S' h' ov'∧FF c h ov h' ov'∧Fin (match (match r with| .ok q=>(.ok (A==1,q.1,q.2):Except Int (Bool×Nat×List Nat))| .error k=>.error k)with| .error k=>.error k| .ok (last,p2,o)=>if last then .ok (p2,o)else AR c.text c.most f p2 o) S':=by
      intro r h' ov' S' step q2 q3 q4 q5
      cases r with
      | error k =>
        have hs:(A:Int)≠0∨((A:Int)=0∧S'.e≠0):=by
         by_cases q:(A:Int)=0
         · exact .inr ⟨q,by rw[q4.1];exact q4.2⟩
         · exact .inl q
        obtain⟨e',r1,r2⟩:=JC q2 A hs
        exact⟨e',h',ov',S',vX step r1,r2,q2,fr2.trans q3,q4⟩
      | ok q =>
        obtain⟨p2,o⟩:=q
        simp only[Fin]at q4
        dsimp only
        by_cases hA1:A=1
        · have hb:(A==1)=true:=by rw[hA1];rfl
          rw[hb]
          simp only[if_true]
          obtain⟨e',r1,r2⟩:=JC q2 A (.inl (by omega))
          exact⟨e',h',ov',S',vX step r1,r2,q2,fr2.trans q3,q4⟩
        · have hA0:A=0:=by omega
          have hb:(A==1)=false:=by rw[hA0];rfl
          rw[hb]
          simp only[xN,yz]
          rw[hA0]at step
          subst q4
          have h5:=q5 (p2,o) rfl
          dsimp only at h5
          obtain⟨e',h'',ov'',S'',r1,r2,r3,r4,r5⟩:=JB f _ h' ov' q2 rfl (by dsimp only;omega)
          exact⟨e',h'',ov'',S'',vX step r1,r2,r3,(fr2.trans q3).trans r4,r5⟩
     by_cases d0:B=0
     · rw [if_pos d0]
       obtain⟨h',ov',S',q1,q2,q3,q4⟩:=PY b2 he2
       rw[hat,hout]at q4
       have d0':((B:Int)==0)=true:=wV (by omega)
       refine close _ h' ov' S' ?_ q2 q3 q4 (fun q hq=> ?_)
       · simp only[I]at *
         simp only[AP.f8L0,go_sem,gf,a1,b1,gf2,ce,d0',q1]
       · unfold CE at hq
         dsimp only at hq
         split at hq
         · split at hq
           · obtain⟨p2,o⟩:=q
             have:=GQ hq;dsimp only;omega
           · cases hq
         · cases hq
     · rw [if_neg d0]
       have d0':((B:Int)==0)=false:=wU (by omega)
       by_cases d1:B=1
       · rw[if_pos d1]
         have d1':((B:Int)==1)=true:=wV (by omega)
         have f1:=L9 h2
         have m1:=D3 h2 (zj y7) y7 (by rw[CM];omega) (Bf _ _)
         have f2:=OH h2
         have m2:=D3 h2 (zj (List.replicate 30 5)) (List.replicate 30 5) (by rw[acZ];omega) (Bf _ _)
         obtain⟨h',ov',S',q1,q2,q3,q4⟩:=LZ y7 (List.replicate 30 5) (by rw[CM];omega) (by rw[acZ];omega) b2 he2
         rw[hat,hout]at q4
         refine close _ h' ov' S' ?_ q2 q3 q4 (fun q hq=>by obtain⟨p2,o⟩:=q;have:=Da hq;dsimp only;omega)
         generalize yT y7=bf at *
         generalize yT (List.replicate 30 5)=bd at *
         generalize zj y7=vf at *
         generalize zj (List.replicate 30 5)=vd at *
         simp only[I]at *
         simp only[AP.f8L0,go_sem,gf,a1,b1,gf2,ce,d0',d1',f1,m1,f2,m2,q1]
       · rw [if_neg d1]
         have d1':((B:Int)==1)=false:=wU (by omega)
         by_cases d2:B=2
         · rw [if_pos d2]
           have d2':((B:Int)==2)=true:=wV (by omega)
           obtain⟨h',ov',S',q1,q2,q3,q4⟩:=NL b2 he2
           rw[hat,hout]at q4
           refine close _ h' ov' S' ?_ q2 q3 q4 (fun q hq=> ?_)
           · simp only[I]at *
             simp only[AP.f8L0,go_sem,gf,a1,b1,gf2,ce,d0',d1',d2',q1]
           · have hb:Bs c.text c.most S.at_ S.out=.ok (yI c.text S.at_ 1==1,q.1,q.2):=by
              unfold Bs
              rw[if_pos hp]
              dsimp only
              rw[←hB,if_neg d0,if_neg d1,if_pos d2,hq]
             have:=Js hb
             exact this
         · rw[if_neg d2]
           have d2':((B:Int)==2)=false:=wU (by omega)
           obtain⟨h',q1,q2,q3⟩:=B7 b2
           refine close (.error 700) h' ov _ ?_ q2 q3 ⟨by simp [yP,he2],by decide⟩ (fun q hq=>by cases hq)
           simp only[I]at *
           simp only[AP.f8L0,go_sem,gf,a1,b1,gf2,ce,d0',d1',d2',q1]
   · rw [if_neg hp]
     have he2:S2.e=700:=by
      by_cases q1:S.at_+1≤8* c.text.size
      · have e1:yY c 1 S=(yI c.text S.at_ 1,{S with at_:=S.at_+1}):=by rw[yY,if_pos q1]
        rw[e1]at hS1;dsimp only at hS1
        have e2:yY c 2 S1=(0,{S1 with e:=700}):=by rw[yY,if_neg (by rw[hS1];show¬S.at_+1+2≤_;omega),yP,if_pos (by rw[hS1];exact he)]
        rw[e2]at hS2
        rw[hS2]
      · have e1:yY c 1 S=(0,{S with e:=700}):=by rw[yY,if_neg q1,yP,if_pos he]
        rw[e1]at hS1;dsimp only at hS1
        have e2:yY c 2 S1=(0,S1):=by rw[yY,if_neg (by rw[hS1];show¬S.at_+2≤_;omega),yP,if_neg (by rw[hS1];simp)]
        rw[e2]at hS2
        rw[hS2,hS1]
     have ce:(S2.e !=0)=true:=wX (by rw[he2];decide)
     refine⟨[(7,.aH c.f 0),(8,I A),(9,I B),(38,.bool true)],h2,ov,S2,vW ?_,rfl,b2,fr2,he2,by decide⟩
     simp only[I]at *
     simp only[AP.f8L0,go_sem,gf,a1,b1,gf2,ce]
theorem NM (h:H) (t:ByteArray) (most:Int) (hs:t.size<1125899906842624):aV AP.A 8 [.str t,I most] h=some (P3 (zF t most),h):=by
 unfold zF
 by_cases c1:most<0
 · rw[if_pos (.inl c1)]
   refine wN (fn:=AP.f8) (h2:=h.eV) (e:=[(4,.str ⟨#[]⟩),(5,I 0),(6,I 700)]) rfl rfl rfl ?_ rfl rfl
   simp only[I]at *
   simp only[AP.f8,go_sem,acO c1]
 by_cases c2:8192<most
 · rw[if_pos (.inr c2)]
   refine wN (fn:=AP.f8) (h2:=h.eV) (e:=[(4,.str ⟨#[]⟩),(5,I 0),(6,I 700)]) rfl rfl rfl ?_ rfl rfl
   simp only[I]at *
   simp only[AP.f8,go_sem,acL c1,acO c2]
 rw[if_neg (by omega)]
 obtain⟨h1,hh1⟩:∃g,g=h.eV.alloc [.str t,I 0,.aT,I most,I 0]:=⟨_,rfl⟩
 have st:Ft ⟨h.next,t,most⟩ ⟨0,[],0⟩ h1 .aT:=by
  refine⟨?_,.inl ⟨rfl,rfl⟩, ?_,by simp [AV.id?], ?_,hs,by simp,by simp;omega,by show most≤900000;omega⟩
  · rw[hh1,H.bc,if_pos (show h.next=h.eV.next from rfl)];rfl
  · rw[hh1];simp
  · rw[hh1];simp
 obtain⟨e',h3,ov,S,q1,q2,q3,q4,q5⟩:=JB (8* t.size+1) ⟨0,[],0⟩ h1 .aT st rfl (by show 8* t.size<0+(8* t.size+1);omega)
 have gf:=q3.gf
 have bx:∀e:Env,look e 19=.agg [.str t,.int .i64 0,.aT,.int .i64 most,.int .i64 0]→bh e (.box 5 (.t 19))=some ([.str t,.int .i64 0,.aT,.int .i64 most,.int .i64 0],fun i=>.aH i 0):=by
  intro e q;simp only[bh,vg,q];rfl
 have fl1:eW [.str ⟨#[]⟩,.int .i64 0] [(0,1,.str t)]=some [.str t,.int .i64 0]:=rfl
 have fl2:eW [.str ⟨#[]⟩,.int .i64 0,.aT,.int .i64 0,.int .i64 0] [(0,2,.agg [.str t,.int .i64 0]),(3,1,.int .i64 most)]=some [.str t,.int .i64 0,.aT,.int .i64 most,.int .i64 0]:=rfl
 have hn:h.eV.next=h.next:=rfl
 dsimp only at q5
 cases hi:AR t most (8* t.size+1) 0 []with
 | error k =>
   rw[hi]at q5
   have c3:(S.e !=0)=true:=wX (by rw[q5.1];exact q5.2)
   have hk:S.e=k:=q5.1
   refine wN (fn:=AP.f8) (h2:=h3) (e:=[(4,.str ⟨#[]⟩),(5,I 0),(6,I k)]) rfl rfl rfl ?_ rfl rfl
   rw[hk]at gf c3
   simp only[I]at *
   simp only[AP.f8,go_sem,acL c1,acL c2,hn,acW,adr,fl1,fl2]
   rw[bx _ rfl]
   simp only[go_sem,←hh1,hn,u9,q1,q2,gf,c3]
 | ok z =>
   obtain⟨p,o⟩:=z
   rw[hi]at q5
   simp only[Fin]at q5
   have c3:(S.e !=0)=false:=wW (by rw[q5])
   have hb:=Oh q3.own
   subst q5
   dsimp only at gf hb c3
   have hle:=q3.Av
   dsimp only at hle
   have w2:IntKind.wrap .i64 ((p:Int)+7)=((p+7:Nat):Int):=yB (n:=p+7) (by omega)
   have qd:bH .quo (.int .i64 ((p+7:Nat):Int)) (.int .i64 8)=some (.int .i64 (((p+7)/8:Nat):Int)):=by
    rw[uV _ _ _ (by omega),show(8:Int)=((8:Nat):Int)from rfl,Bn,yB (by omega)]
   refine wN (fn:=AP.f8) (h2:=h3) (e:=[(4,.str (bytesOf o)),(5,I ((p+7)/8:Nat)),(6,I 0)]) rfl rfl rfl ?_ rfl rfl
   generalize (p+7)/8=P at *
   generalize p+7=P7 at *
   simp only[I]at *
   simp only[AP.f8,go_sem,acL c1,acL c2,hn,acW,adr,fl1,fl2]
   rw[bx _ rfl]
   simp only[go_sem,←hh1,hn,u9,q1,q2,gf,c3,w2,hb,qd]
abbrev E7 (k:Int):Prop:=k=700∨k=701
theorem I3 {t:ByteArray} {most k:Int}:∀{n p:Nat} {out:List Nat},A5 t most n p out=.error k→E7 k
 |0,p,out,h=>by cases h
 | n + 1, p, out, h => by
   unfold A5 at h
   split at h
   · split at h
     · cases h;exact .inr rfl
     · exact I3 h
   · cases h;exact .inl rfl
theorem MV {t:ByteArray} {most k:Int} {p:Nat} {out:List Nat} (h:CE t most p out=.error k):E7 k:=by
 unfold CE at h
 dsimp only at h
 split at h
 · split at h
   · exact I3 h
   · cases h;exact .inl rfl
 · cases h;exact .inl rfl
theorem Jx {most k:Int} {d:Nat}:∀{n:Nat} {out:List Nat},CW most d n out=.error k→E7 k
 |0,out,h=>by cases h
 | n + 1, out, h => by
   unfold CW at h
   split at h
   · cases h;exact .inr rfl
   · exact Jx h
theorem PQ {t : ByteArray} {most k : Int} {dl : List Int} {y p : Nat} {out : List Nat} (h : D7 t most dl y p out = .error k) : E7 k := by
 unfold D7 at h
 split at h
 · cases h;exact .inl rfl
 · split at h
   · split at h
     · cases h;exact .inl rfl
     · split at h
       · cases h;exact .inl rfl
       · split at h
         · split at h
           · cases h
           · rename_i q;cases h;exact Jx q
         · cases h;exact .inl rfl
   · cases h;exact .inl rfl
theorem DF {t : ByteArray} {most k : Int} {ll dl : List Int} : ∀ {n p : Nat} {out : List Nat}, Ak t most ll dl n p out = .error k → E7 k
 |0,p,out,h=>by cases h;exact .inl rfl
 | n + 1, p, out, h => by
   unfold Ak at h
   split at h
   · cases h;exact .inl rfl
   · split at h
     · split at h
       · cases h;exact .inr rfl
       · exact DF h
     · split at h
       · cases h
       · split at h
         · exact DF h
         · rename_i q;cases h;exact PQ q
theorem Rf {t : ByteArray} {most k : Int} {p : Nat} {out : List Nat} (h : Ho t most p out = .error k) : E7 k := by
 unfold Ho at h
 dsimp only at h
 split at h
 · split at h
   · cases h;exact .inl rfl
   · split at h
     · cases h;exact .inl rfl
     · split at h
       · cases h;exact .inl rfl
       · exact DF h
 · cases h;exact .inl rfl
theorem Nt {t : ByteArray} {most k : Int} {p : Nat} {out : List Nat} (h : Bs t most p out = .error k) : E7 k := by
 unfold Bs at h
 dsimp only at h
 split at h
 · split at h
   · cases h
   · rename_i q
     cases h
     split at q
     · exact MV q
     · split at q
       · exact DF q
       · split at q
         · exact Rf q
         · cases q;exact .inl rfl
 · cases h;exact .inl rfl
theorem G6 {t:ByteArray} {most k:Int}:∀{n p:Nat} {out:List Nat},AR t most n p out=.error k→E7 k
 | 0, p, out, h => by
   unfold AR at h
   cases h;exact .inl rfl
 | n + 1, p, out, h => by
   unfold AR at h
   split at h
   · rename_i q;cases h;exact Nt q
   · split at h
     · cases h
     · exact G6 h
theorem F3 {t:ByteArray} {most k:Int} (h:zF t most=.error k):E7 k:=by
 unfold zF at h
 split at h
 · cases h;exact .inl rfl
 · split at h
   · cases h
   · rename_i q;cases h;exact G6 q
theorem dt {p:Prop} [Decidable p] (h:p):decide p=true:=acO h
theorem df {p:Prop} [Decidable p] (h:¬p):decide p=false:=acL h
theorem eqt {a b:Int} (h:a=b):(a==b)=true:=by simp [h]
theorem eqf {a b:Int} (h:¬a=b):(a==b)=false:=by simp [h]
theorem net {a b:Int} (h:¬a=b):(a !=b)=true:=by simp [h]
theorem nef {a b:Int} (h:a=b):(a !=b)=false:=by simp [h]
theorem wi {n:Int} (h: -9223372036854775808≤n∧n<9223372036854775808):IntKind.wrap .i64 n=n:=wA h.1 (by omega)
theorem wb {n:Int} (h:0≤n∧n<256):IntKind.wrap .u8 n=n:=by
 simp [IntKind.wrap,IntKind.bits,IntKind.signed];omega
theorem U4 {i:Int} {n:Nat} (h:0≤i∧i<n):dG (.int .i64 i) n=some i.toNat:=by
 simp [dG,pS,h]
def at_:Nat→aK→aK
 |0,.seq a _=>a
 |0,c=>c
 |n+1,.seq _ b=>at_ n b
 |_+1,c=>c
def QJ:Nat→aK→aK
 |0,c=>c
 |n+1,.seq _ b=>QJ n b
 |_+1,c=>c
theorem Ar (a b:aK):at_ 0 (.seq a b)=a:=rfl
theorem AA (n:Nat) (a b:aK):at_ (n+1) (.seq a b)=at_ n b:=rfl
theorem Qu (c:aK):QJ 0 c=c:=rfl
theorem Qt (n:Nat) (a b:aK):QJ (n+1) (.seq a b)=QJ n b:=rfl
theorem Dd {h:H} {id i:Nat} (e:¬i=id):(h.del id).get i=h.get i:=by rw[H.eZ,if_neg e]
theorem Gk (h:H):h.eV.next=h.next:=xJ rfl rfl
theorem FV (h:H):h.eV.floor=h.next:=xJ rfl rfl
theorem FX (h:H) (i:Nat):h.eV.get i=h.get i:=xJ rfl rfl
theorem KV (h:H) (i:Nat):(h.del i).next=h.next:=xJ rfl rfl
theorem KN (h:H) (i:Nat):(h.del i).floor=h.floor:=xJ rfl rfl
theorem yG {h:H} {cs:List AV} {i:Nat} (e:i=h.next):(h.alloc cs).get i=some cs:=by rw[H.bc,if_pos e]
theorem yN {h:H} {cs:List AV} {i:Nat} (e:¬i=h.next):(h.alloc cs).get i=h.get i:=by rw[H.bc,if_neg e]
theorem yM {h:H} {cs:List AV} {id i:Nat} (e:i=id):(h.set id cs).get i=(h.get i).map fun _=>cs:=by rw[H.ee,if_pos e,e]
theorem yE {h:H} {cs:List AV} {id i:Nat} (e:¬i=id):(h.set id cs).get i=h.get i:=by rw[H.ee,if_neg e]
def Bb {α:Type} (b:Bool) (x:α):Option α:=if b then some x else none
theorem Ot {α:Type} (x:α):Bb true x=some x:=rfl
theorem Pm (h:H) (id off n:Nat) (v cs:List AV):wP h id off n v (some cs)=Bb (decide (h.floor≤id)&&(decide (v.length=n)&&(decide (off+n≤cs.length)&&AV.aG v))) (h.set id (setFrom cs off v)):=by
 simp only[wP,xM,Bb]
 by_cases c:h.floor≤id∧v.length=n∧off+n≤cs.length∧AV.aG v=true
 · rw[if_pos c];obtain⟨c1,c2,c3,c4⟩:=c;simp [c1,c2,c3,c4]
 · rw[if_neg c,if_neg];simpa using c
theorem rdT (n:Nat) (cs:List AV) (off:Nat):jg true n cs off=Bb (decide (off+n≤cs.length)) (.agg ((cs.drop off).take n)):=by
 simp only[jg,Bb,if_true,ac6]
theorem Rn (z:List AV):eW z []=some z:=rfl
def L6 (r:List (Nat×Nat×AV)) (p:Option (List AV)):Option (List AV):=p.bind fun z=>eW z r
theorem OG (r:List (Nat×Nat×AV)) (z:List AV):L6 r (some z)=eW z r:=rfl
theorem Rm (z:List AV) (o n:Nat) (v:AV) (r:List (Nat×Nat×AV)):eW z ((o,n,v)::r)=L6 r (Bb (decide (v.cells.length=n)&&(decide (o+n≤z.length)&&AV.aG v.cells)) (setFrom z o v.cells)):=by
 simp only[eW,Bb]
 by_cases c:v.cells.length=n∧o+n≤z.length∧AV.aG v.cells=true
 · rw[if_pos c];obtain⟨c1,c2,c3⟩:=c;simp [c1,c2,c3,L6]
 · rw[if_neg c,if_neg]; · rfl
   simpa using c
def Ls (p:Option (List AV)) (f:Nat→AV):Option (List AV×(Nat→AV)):=p.bind fun cs=>some (cs,f)
theorem QV (cs:List AV) (f:Nat→AV):Ls (some cs) f=some (cs,f):=rfl
theorem Jp (e:Env) (z:List AV):bh e (.alloc z)=Ls (Bb (AV.aG z) z) (fun i=>.aH i 0):=by
 simp only[bh,Bb];split<;>rfl
theorem Oi (e:Env) (n:Nat) (x:X):bh e (.box n x)=Ls (Bb (decide ((x.ev e).cells.length=n)&&AV.aG (x.ev e).cells) (x.ev e).cells) (fun i=>.aH i 0):=by
 simp only[bh,Bb]
 by_cases c:(x.ev e).cells.length=n∧AV.aG (x.ev e).cells=true
 · rw[if_pos c];simp [c,Ls]
 · rw[if_neg c,if_neg]; · rfl
   simpa using c
theorem HI (e:Env) (sz len:Nat) (z:List AV) (ps:List (Nat×X)):bh e (.du sz len z ps)=Ls (L6 (ps.map fun p=>(p.1* sz,sz,p.2.ev e)) (Bb (decide (z.length=sz)&&(decide (0<sz)&&AV.aG z)) (eK len z))) (fun i=>.aI i 0 len sz):=by
 simp only[bh,Bb]
 by_cases c:z.length=sz∧0<sz∧AV.aG z=true
 · rw[if_pos c];simp [c,Ls,L6]
 · rw[if_neg c,if_neg]; · rfl
   simpa using c
theorem R9 (z:List AV):eK 0 z=[]:=rfl
theorem R8 (n:Nat) (z:List AV):eK (n+1) z=z++eK n z:=rfl
def Yj (Ad:List Nat) (e:Env) (h:H) (b:Bool):ey:=if b then some (.normal,aC e Ad,h)else none
theorem RE (Ad:List Nat) (e:Env) (h:H):Yj Ad e h true=some (.normal,aC e Ad,h):=rfl
def goD (c:ah) (ops:List ak) (fl:List (Nat×List Nat)) (Ad:List Nat) (p:Option (Env×H×List H)):ey:=p.bind fun q=>Yj Ad q.1 q.2.1 (bq c ops q.1 q.2.2 fl)
theorem UD (c:ah) (ops:List ak) (fl:List (Nat×List Nat)) (Ad:List Nat) (e:Env) (h:H) (gs:List H):goD c ops fl Ad (some (e,h,gs))=Yj Ad e h (bq c ops e gs fl):=rfl
theorem Og (c:ah) (l:bW) (ord:List Nat) (ops:List ak) (x:Nat×List Nat) (fl:List (Nat×List Nat)) (Ad:List Nat) (e:Env) (h:H):aP c l (.jP ord ops (x::fl) Ad) e h=goD c ops (x::fl) Ad (aR c ops e h):=by
 rw[aP];rfl
theorem UZ (c:ah) (ops:List ak) (e:Env) (gs:List H):bq c ops e gs []=true:=rfl
def stK (c:ah) (ops:List ak) (e:Env) (gs:List H) (i:Nat) (ks:List Nat):Bool:=ks.all (bU c ops e gs i)
theorem UY (c:ah) (ops:List ak) (e:Env) (gs:List H) (i:Nat) (ks:List Nat) (r:List (Nat×List Nat)):bq c ops e gs ((i,ks)::r)=(stK c ops e gs i ks&&bq c ops e gs r):=rfl
theorem UW (c:ah) (ops:List ak) (e:Env) (gs:List H) (i:Nat):stK c ops e gs i []=true:=rfl
def QI (c : ah) (e : Env) (o : Option ak) (g : Option H) : Bool := match o, g with
 | some o, some g =>
   if o.op.aM then
    match o.dst.map (look e)with
    |some (.cf [])=>true
    | some v => (match v.id?, bh e o.op with
      |some id,some b=>(match g.get id with|some cs=>AV.iz cs b.1|none=>false)
      |_,_=>false)
    |none=>false
   else match o.dst.map (look e)with
    |some v=>(match aj c o e g with|some (u,_)=>AV.beq u v|none=>false)
    |none=>false
 |_,_=>false
theorem UU (c:ah) (ops:List ak) (e:Env) (gs:List H) (i k:Nat) (r:List Nat):stK c ops e gs i (k::r)=(QI c e (ops[i]?) (gs[k]?)&&stK c ops e gs i r):=by
 unfold stK
 rw[List.all_cons]
 congr 1
def stV (v:AV) (p:Option (AV×H)):Bool:=match p with|some (u,_)=>AV.beq u v|none=>false
theorem UX (v u:AV) (h:H):stV v (some (u,h))=AV.beq u v:=rfl
def YL (b:Bool) (x y:Bool):Bool:=if b then x else y
theorem US (x y:Bool):YL false x y=y:=rfl
def Jl (c:ah) (e:Env) (o:Option ak) (g:Option H):Bool:=QI c e o g
theorem UR (c:ah) (e:Env) (d:Nat) (op:cy) (g:H):QI c e (some ⟨some d,op,none⟩) (some g)=YL op.aM (Jl c e (some ⟨some d,op,none⟩) (some g)) (stV (look e d) (ai c e g op)):=by
 unfold Jl QI YL
 dsimp only
 cases op.aM<;>rfl
theorem UQ (c:ah) (e:Env) (d:Nat) (op:cy) (k:Nat) (w:Bool) (g:H):QI c e (some ⟨some d,op,some (k,w)⟩) (some g)=YL op.aM (Jl c e (some ⟨some d,op,some (k,w)⟩) (some g)) (stV (look e d) (nq w c e g op (look e k))):=by
 unfold Jl QI YL
 dsimp only
 cases op.aM with
 |true=>rfl
 |false=>rw[oS];rfl
mutual
theorem beq_refl:∀a:AV,AV.beq a a=true
 | .bot=>rfl
 | .bool b=>by simp [AV.beq]
 | .int k n=>by simp [AV.beq]
 | .str s=>Hr s
 | .cZ=>rfl
 | .aH i o=>by simp [AV.beq]
 | .aO c o=>by simp [AV.beq,A7 c]
 | .aT=>rfl
 | .aI i o l z=>by simp [AV.beq]
 | .aZ t c o l z=>by simp [AV.beq,A7 c]
 | .fn f a b=>by simp [AV.beq,A7 a,A7 b]
 | .fS=>rfl
 | .iface t v=>by simp [AV.beq,beq_refl v]
 | .fT=>rfl
 | .agg c=>by simp [AV.beq,A7 c]
 | .cf c=>by simp [AV.beq,A7 c]
theorem A7:∀l:List AV,AV.iz l l=true
 |[]=>rfl
 |a::l=>by simp [AV.iz,beq_refl a,A7 l]
end
theorem UT (x y:Bool):YL true x y=x:=rfl
def YU (c:Option (List AV)) (d:List AV):Bool:=match c with|some cs=>AV.iz cs d|none=>false
theorem Uu (c d:List AV):YU (some c) d=AV.iz c d:=rfl
def K7 (v : AV) (b : Option (List AV × (Nat → AV))) (g : H) : Bool := match v with
 | .cf []=>true
 | v => match v.id?, b with
   |some id,some b=>YU (g.get id) b.1
   |_,_=>false
theorem Sq (b:Option (List AV×(Nat→AV))) (g:H):K7 (.cf []) b g=true:=rfl
theorem Sp (i o:Nat) (cs:List AV) (f:Nat→AV) (g:H):K7 (.aH i o) (some (cs,f)) g=YU (g.get i) cs:=rfl
theorem Sn (i o l z:Nat) (cs:List AV) (f:Nat→AV) (g:H):K7 (.aI i o l z) (some (cs,f)) g=YU (g.get i) cs:=rfl
theorem Hz {c : ah} {e : Env} {d : Nat} {op : cy} {gd : Option (Nat × Bool)} {g : H} (hb : op.aM = true) : Jl c e (some ⟨some d, op, gd⟩) (some g) = K7 (look e d) (bh e op) g := by
 unfold Jl QI
 dsimp only
 rw[hb,if_pos rfl]
 show (match some (look e d) with
  |some (.cf [])=>true
  | some v => (match v.id?, bh e op with
    |some id,some b=>(match g.get id with|some cs=>AV.iz cs b.1|none=>false)
    |_,_=>false)
  |none=>false)=_
 generalize look e d=v
 unfold K7 YU
 cases v with
 |cf vs=>cases vs<;>rfl
 |_=>cases bh e op<;>rfl
theorem I0 (c:ah) (e:Env) (d:Nat) (z:List AV) (gd:Option (Nat×Bool)) (g:H):Jl c e (some ⟨some d,.alloc z,gd⟩) (some g)=K7 (look e d) (bh e (.alloc z)) g:=Hz rfl
theorem MU (c:ah) (e:Env) (d n:Nat) (x:X) (gd:Option (Nat×Bool)) (g:H):Jl c e (some ⟨some d,.box n x,gd⟩) (some g)=K7 (look e d) (bh e (.box n x)) g:=Hz rfl
theorem Hk (c:ah) (e:Env) (d n m:Nat) (z:List AV) (ps:List (Nat×X)) (gd:Option (Nat×Bool)) (g:H):Jl c e (some ⟨some d,.du n m z ps,gd⟩) (some g)=K7 (look e d) (bh e (.du n m z ps)) g:=Hz rfl
theorem Kh (c:ah) (e:Env) (d n m:Nat) (z:List AV) (x y:X) (gd:Option (Nat×Bool)) (g:H):Jl c e (some ⟨some d,.jR n m z x y,gd⟩) (some g)=K7 (look e d) (bh e (.jR n m z x y)) g:=Hz rfl
theorem Ll (b:Bool):AV.beq (.bool b) (.bool b)=true:=by simp [AV.beq]
theorem Lr:AV.beq (.cf []) (.cf [])=true:=rfl
theorem Lm:AV.beq .aT .aT=true:=rfl
theorem Jo:AV.beq .cZ .cZ=true:=rfl
theorem NV (sz id off len:Nat) (i:AV):ik sz (.aI id off len sz) i=w8 id off sz (dG i len):=by simp [ik,w8]
theorem RI (t:Bool) (cells:List AV) (sz off len:Nat) (i:AV):ik sz (.aZ t cells off len sz) i=w9 cells off sz (dG i len):=by simp [ik,w9]
def A3 (n:Nat) (z:List AV):List AV:=eK n z
def UG (sz bytes:Nat) (zero:List AV) (l c:AV):Option (List AV×(Nat→AV)):=
 match l,c with
 | .int .i64 l,.int .i64 c=>Ls (Bb (decide (0≤l)&&(decide (l≤c)&&(decide (c≤9223372036854775807)&&(decide ((bytes:Int)* c≤281474976710656)&&(decide (zero.length=sz)&&(decide (0<sz)&&AV.aG zero)))))) (A3 c.toNat zero)) (fun i=>.aI i 0 l.toNat sz)
 |_,_=>none
theorem KU (sz bytes:Nat) (zero:List AV) (l c:Int):UG sz bytes zero (.int .i64 l) (.int .i64 c)=Ls (Bb (decide (0≤l)&&(decide (l≤c)&&(decide (c≤9223372036854775807)&&(decide ((bytes:Int)* c≤281474976710656)&&(decide (zero.length=sz)&&(decide (0<sz)&&AV.aG zero)))))) (A3 c.toNat zero)) (fun i=>.aI i 0 l.toNat sz):=rfl
theorem Lu (e : Env) (sz bytes : Nat) (zero : List AV) (l c : X) : bh e (.jR sz bytes zero l c) = UG sz bytes zero (l.ev e) (c.ev e) := by
 simp only[bh]
 cases l.ev e with
 | int k l => cases k <;> cases c.ev e with
   | int k2 c => cases k2 <;> first
     |rfl
     | (simp only [KU, Bb]
        by_cases q:0≤l∧l≤c∧c≤9223372036854775807∧(bytes:Int)* c≤281474976710656∧zero.length=sz∧0<sz∧AV.aG zero=true
        · rw[if_pos q];obtain⟨q1,q2,q3,q4,q5,q6,q7⟩:=q
          rw[if_pos]
          · rfl
          · simp [q1,q2,q3,q4,q5,q6,q7]
        · rw[if_neg q,if_neg]
          · rfl
          · simpa using q)
   |_=>rfl
 |_=>cases c.ev e<;>rfl
theorem QQ (i o l z:Nat):jZ false (.aI i o l z)=some (.int .i64 l):=rfl
theorem QP:jZ false .aT=some (.int .i64 0):=rfl
theorem QO (t:Bool) (c:List AV) (o l z:Nat):jZ false (.aZ t c o l z)=some (.int .i64 l):=rfl
theorem Fp (s:ByteArray):jZ true (.str s)=some (.int .i64 s.size):=rfl
theorem SA (a b:Nat):((a:Int)+(b:Int)).toNat=a+b:=by omega
theorem Cx (a:Nat):((a:Int)).toNat=a:=by omega
def AX (s:ByteArray) (i:Nat):Nat:=((s[i]?).map (·.toNat)).getD 0
theorem CJ (s:ByteArray) (i:Nat):AX s i<256:=by
 unfold AX
 cases s[i]? with
 |none=>simp
 |some b=>simp;exact b.toNat_lt
theorem Hw {s:ByteArray} {i:Int} (h:0≤i∧i<s.size):om (.str s) (.int .i64 i)=some (.int .u8 (AX s i.toNat:Nat)):=by
 have hi:i.toNat<s.size:=by omega
 simp [om,U4 h,AX,hi]
def GP {α:Type} (b:Bool) (x y:Option α):Option α:=if b then x else y
theorem Sd {α:Type} (x y:Option α):GP true x y=x:=rfl
theorem Sc {α:Type} (x y:Option α):GP false x y=y:=rfl
def YC (n o k:Nat) (p:Option (List AV)):Option (Nat×List AV):=p.bind fun cs=>Bb (decide (o+k* n≤cs.length)) (k,(cs.drop o).take (k* n))
theorem Sl (n o k:Nat) (cs:List AV):YC n o k (some cs)=Bb (decide (o+k* n≤cs.length)) (k,(cs.drop o).take (k* n)):=rfl
theorem UO (h:H) (n p o k:Nat):aW h n (.aI p o k n)=YC n o k (h.get p):=by
 simp only[aW,if_true,YC]
 cases h.get p with
 |none=>rfl
 |some cs=>simp only[xM,Bb,ac6]
theorem UM (h:H) (t:Bool) (n o k:Nat) (cs:List AV):aW h n (.aZ t cs o k n)=Bb (decide (o+k* n≤cs.length)) (k,(cs.drop o).take (k* n)):=by
 simp only[aW,if_true,Bb,ac6]
theorem UN (h:H) (n:Nat):aW h n .aT=some (0,[]):=xJ rfl rfl
theorem UP (h:H) (s:ByteArray):aW h 1 (.str s)=some (s.size,s.data.toList.map fun b=>.int .u8 b.toNat):=xJ rfl rfl
def YQ (h:H) (n z:Nat) (a:AV) (p:Option (Nat×List AV)):Option (AV×H):=p.bind fun r=>eR h n z a r.1 r.2
theorem QS (h:H) (n z:Nat) (a:AV) (m:Nat) (bs:List AV):YQ h n z a (some (m,bs))=eR h n z a m bs:=rfl
theorem Us (h:H) (n z:Nat) (a b:AV):mR h n z a b=YQ h n z a (aW h n b):=xJ rfl rfl
def apO (h:H) (n z p o k m:Nat) (bs:List AV) (q:Option (List AV)):Option (AV×H):=q.bind fun cs=>
 GP (decide (o+(k+m)* n≤cs.length)) (some (.aI p o (k+m) n,h.set p (setFrom cs (o+k* n) bs))) (GP (decide (o+k* n=cs.length)&&roomy z (k+m)) (some (.aI h.next 0 (k+m) n,(h.del p).alloc (cs.drop o++bs))) none)
theorem Up (h:H) (n z p o k m:Nat) (bs cs:List AV):apO h n z p o k m bs (some cs)=GP (decide (o+(k+m)* n≤cs.length)) (some (.aI p o (k+m) n,h.set p (setFrom cs (o+k* n) bs))) (GP (decide (o+k* n=cs.length)&&roomy z (k+m)) (some (.aI h.next 0 (k+m) n,(h.del p).alloc (cs.drop o++bs))) none):=rfl
theorem Ur (h : H) (n z p o k m : Nat) (bs : List AV) : eR h n z (.aI p o k n) m bs = GP (decide (m = 0)) (some (.aI p o k n, h)) (GP (AV.aG bs && (decide (0 < n) && decide (h.floor ≤ p))) (apO h n z p o k m bs (h.get p)) none) := by
 unfold eR GP
 by_cases c:m=0
 · simp [c]
 · rw [if_neg c]
   simp only[ac6,if_neg c]
   by_cases c1:AV.aG bs=false∨n=0
   · rw[if_pos c1,if_neg]
     rcases c1 with c1|c1
     · simp [c1]
     · simp [c1]
   · rw[if_neg c1]
     have q1:AV.aG bs=true:=by cases q:AV.aG bs with|true=>rfl|false=>exact absurd (.inl q) c1
     by_cases c2:h.floor≤p
     · have qq:(AV.aG bs&&(decide (0<n)&&decide (h.floor≤p)))=true:=by simp [q1,c2];omega
       simp only[true_and,if_pos c2,qq,if_true,apO,GP]
       cases h.get p with
       |none=>rfl
       |some cs=>simp only[xM,ac6,xR]
     · have qq:(AV.aG bs&&(decide (0<n)&&decide (h.floor≤p)))=false:=by simp [c2]
       simp only[true_and,if_neg c2,qq];rfl
theorem Uq (h:H) (n z m:Nat) (bs:List AV):eR h n z .aT m bs=GP (decide (m=0)) (some (.aT,h)) (GP (AV.aG bs&&(decide (0<n)&&roomy z m)) (some (.aI h.next 0 m n,h.alloc bs)) none):=by
 unfold eR GP
 by_cases c:m=0
 · simp [c]
 · rw[if_neg c]
   simp only[ac6,if_neg c]
   by_cases c1:AV.aG bs=false∨n=0
   · rw[if_pos c1,if_neg]
     rcases c1 with c1|c1
     · simp [c1]
     · simp [c1]
   · rw[if_neg c1]
     have q1:AV.aG bs=true:=by cases q:AV.aG bs with|true=>rfl|false=>exact absurd (.inl q) c1
     have q2:0<n:=by omega
     simp [q1,q2]
theorem A9 {b n:Nat} (h:1≤b∧(n+n/4+512)* b≤281474976710656):roomy b n=true:=by simp only[roomy,h.1,h.2,and_self,decide_true]
theorem abB {h:H} {n p o k:Nat} {m:Int} {cs:List AV} (hg:h.get p=some cs) (hn:0<n) (hk:o+k* n≤cs.length) (hm:0≤m∧m.toNat≤(cs.length-o)/n):uZ h n (.aI p o k n) none (some (.int .i64 m)) none=some (.aI p o m.toNat n):=by
 have h1:k≤(cs.length-o)/n:=by rw[Nat.le_div_iff_mul_le hn];omega
 simp only[uZ,hn,and_self,if_true,hg,xM,aF]
 rw[if_pos ⟨by omega,h1⟩]
 have h3:mu (.int .i64 m) ((cs.length-o)/n)=some m.toNat:=by
  simp only[mu,pS,xM]
  rw[if_pos]
  omega
 simp [h3]
theorem GD {α:Type} {C:α→List AV} {n:Nat} (hC:∀x,(C x).length=n):∀{l:List α} {i f:Nat} {x:α},l[i]?=some x→f<n→(l.flatMap C)[i* n+f]?=(C x)[f]?
 |[],i,f,x,h,_=>by simp at h
 | y :: l, 0, f, x, h, hf => by
   obtain rfl:y=x:=by simpa using h
   rw[acT,Nat.zero_mul,xW,adi (by rw[hC];exact hf)]
 | y :: l, i + 1, f, x, h, hf => by
   rw[acT,ac4 (by rw[hC,yq];omega),hC]
   rw[show(i+1)* n+f-n=i* n+f by rw[yq];omega]
   exact GD hC (by simpa using h) hf
theorem E3 {α:Type} {C:α→List AV} {n:Nat} (hC:∀x,(C x).length=n):∀l:List α,(l.flatMap C).length=l.length* n
 |[]=>by simp
 |y::l=>by rw[acT,yy,hC,E3 hC l,acN,yq];omega
theorem Hv {α:Type} {C:α→List AV} {n:Nat} (hC:∀x,(C x).length=n):∀{l:List α} {i:Nat} {x:α},l[i]?=some x→((l.flatMap C).drop (i* n)).take n=C x
 |[],i,x,h=>by simp at h
 | y :: l, 0, x, h => by
   obtain rfl:y=x:=by simpa using h
   rw[acT,Nat.zero_mul,ac8,List.take_append_of_le_length (by rw[hC];omega),yo (by rw[hC];omega)]
 | y :: l, i + 1, x, h => by
   rw[acT,List.drop_append,List.drop_of_length_le (by rw[hC,yq];omega),adt,hC,show(i+1)* n-n=i* n by rw[yq];omega]
   exact Hv hC (by simpa using h)
def zZ (n:Nat) (h:H) (v:AV) (k:Nat) (cs:List AV):Prop:=aW h n v=some (k,cs)∧cs.length=k* n∧∀s,v≠.str s
theorem Rd.T8 {h:H} {v:AV} {cs:List AV} (r:Rd h v cs):zZ 1 h v cs.length cs:=⟨r.1,by omega,r.2⟩
theorem zZ.len {n:Nat} {h:H} {v:AV} {k:Nat} {cs:List AV} (r:zZ n h v k cs):jZ false v=some (.int .i64 k):=by
 obtain⟨r,_,hs⟩:=r
 unfold aW at r
 split at r
 · obtain⟨h1,h2⟩:=xH (xF r);subst h1;rfl
 · exact absurd rfl (hs _)
 · split at r
   · simp only[xE]at r
     obtain⟨c,_,r⟩:=r
     split at r
     · obtain⟨h1,h2⟩:=xH (xF r);simp [jZ,h1]
     · cases r
   · cases r
 · split at r
   · split at r
     · obtain⟨h1,h2⟩:=xH (xF r);simp [jZ,h1]
     · cases r
   · cases r
 · cases r
theorem zZ.mono {n:Nat} {h g:H} {v:AV} {k:Nat} {cs:List AV} (r:zZ n h v k cs) (hg:∀id c,h.get id=some c→g.get id=some c):zZ n g v k cs:=by
 obtain⟨r,hl,hs⟩:=r
 refine⟨?_,hl,hs⟩
 unfold aW at r ⊢
 split at r
 · exact r
 · exact r
 · split at r
   · rename_i q;simp only[if_pos q,xE]at r ⊢
     obtain⟨c,h1,r⟩:=r
     exact⟨c,hg _ _ h1,r⟩
   · cases r
 · exact r
 · cases r
theorem zZ.at_ {n : Nat} {h : H} {v : AV} {k : Nat} {cs : List AV} (r : zZ n h v k cs) : ∃ ad : Int → Nat → AV,
 (∀i:Int,0≤i∧i<k→ik n v (.int .i64 i)=some (ad i 0))∧
 (∀(i:Int) (f g:Nat),0≤i∧i<k→gH g (ad i f)=some (ad i (f+g)))∧
 (∀(i:Int) (f:Nat) (g:H),0≤i∧i<k→kJ g (ad i f)=some (ad i f,g))∧
 (∀g:H,(∀id c,h.get id=some c→g.get id=some c)→(∀(i:Int) (f:Nat) (c:AV),0≤i∧i<k→cs[i.toNat* n+f]?=some c→cq false 1 (ad i f) g=some c)∧
   ∀i:Int,0≤i∧i<k→cq true n (ad i 0) g=some (.agg ((cs.drop (i.toNat* n)).take n))):=by
 obtain⟨r,hl,hs⟩:=r
 unfold aW at r
 split at r
 · obtain⟨h1,h2⟩:=xH (xF r);subst h1
   exact⟨fun _ _=>.bot,fun i hi=>by omega,fun i f g hi=>by omega,fun i f g hi=>by omega,fun g _=>⟨fun i f c hi=>by omega,fun i hi=>by omega⟩⟩
 · exact absurd rfl (hs _)
 · rename_i id off len s
   split at r
   · rename_i q
     subst q
     simp only[xE]at r
     obtain⟨d,hd,r⟩:=r
     split at r
     · rename_i hle
       obtain⟨h1,h2⟩:=xH (xF r)
       subst h1
       have bnd:∀i:Int,0≤i∧i<len→i.toNat* s+s≤len* s:=fun i hi=>by
        have:=xU s (show i.toNat+1≤len by omega);rw[yq]at this;omega
       refine⟨fun i f=>.aH id (off+i.toNat* s+f),fun i hi=>by simp [ik,U4 hi],fun i f g _=>by simp [gH];omega,fun i f g _=>rfl,fun g hg=>⟨fun i f c hi hc=> ?_,fun i hi=> ?_⟩⟩
       · simp only[cq,hg _ _ hd,xM,jg,xN,yz]
         rw[←h2,yx]at hc
         split at hc
         · rw[yd]at hc;rw[xO];exact hc
         · cases hc
       · have:=bnd i hi
         simp only[cq,hg _ _ hd,xM,jg,if_true,adC]
         rw[if_pos (by omega),←h2,List.drop_take,List.take_take,List.drop_drop,Nat.min_eq_left (by omega)]
     · cases r
   · cases r
 · rename_i t cells off len s
   split at r
   · rename_i q
     subst q
     split at r
     · rename_i hle
       obtain⟨h1,h2⟩:=xH (xF r)
       subst h1
       have bnd:∀i:Int,0≤i∧i<len→i.toNat* s+s≤len* s:=fun i hi=>by
        have:=xU s (show i.toNat+1≤len by omega);rw[yq]at this;omega
       refine⟨fun i f=>.aO cells (off+i.toNat* s+f),fun i hi=>by simp [ik,U4 hi],fun i f g _=>by simp [gH];omega,fun i f g _=>rfl,fun g hg=>⟨fun i f c hi hc=> ?_,fun i hi=> ?_⟩⟩
       · simp only[cq,jg,xN,yz]
         rw[←h2,yx]at hc
         split at hc
         · rw[yd]at hc;rw[xO];exact hc
         · cases hc
       · have:=bnd i hi
         simp only[cq,jg,if_true,adC]
         rw[if_pos (by omega),←h2,List.drop_take,List.take_take,List.drop_drop,Nat.min_eq_left (by omega)]
     · cases r
   · cases r
 · cases r
def yS (n:Nat) (h:H) (v:AV) (k:Nat) (cs:List AV):Prop:=cs.length=k* n∧((v=.aT∧k=0)∨∃id,v=.aI id 0 k n∧h.get id=some cs∧h.floor≤id∧0<k)
theorem yS.nil {n:Nat} {h:H}:yS n h .aT 0 []:=⟨by simp,.inl ⟨rfl,rfl⟩⟩
theorem yS.mono {n:Nat} {h g:H} {v:AV} {k:Nat} {cs:List AV} (o:yS n h v k cs) (hf:g.floor=h.floor) (hg:∀i,v.id?=some i→g.get i=h.get i):yS n g v k cs:=by
 obtain⟨l,o⟩:=o
 refine⟨l, ?_⟩
 rcases o with o|⟨id,rfl,h1,h2,h3⟩
 · exact .inl o
 · exact .inr ⟨id,rfl,by rw[hg id rfl];exact h1,by rw[hf];exact h2,h3⟩
theorem yS.sc {n:Nat} {h:H} {v:AV} {k:Nat} {cs:List AV} (o:yS n h v k cs):v.sc=true:=by
 rcases o.2 with ⟨rfl,_⟩|⟨id,rfl,_⟩<;>rfl
theorem yS.lt {n:Nat} {h:H} {v:AV} {k:Nat} {cs:List AV} (o:yS n h v k cs) {i:Nat} (hi:v.id?=some i):h.floor≤i∧i<h.next:=by
 rcases o.2 with ⟨rfl,_⟩|⟨id,rfl,h1,h2⟩
 · cases hi
 · obtain rfl:=xF hi;exact⟨h2.1,h.lt _ _ h1⟩
theorem yS.rd {n:Nat} {h:H} {v:AV} {k:Nat} {cs:List AV} (o:yS n h v k cs):zZ n h v k cs:=by
 obtain⟨l,o⟩:=o
 rcases o with ⟨rfl,rfl⟩|⟨id,rfl,h1,h2⟩
 · have:cs=[]:=ada (by omega)
   subst this
   exact⟨rfl,by simp,fun _=>by simp⟩
 · refine⟨?_,l,fun _=>by simp⟩
   simp only[aW,if_true,h1,xM,xW]
   rw[if_pos (by omega),ac8,yo (by omega)]
theorem yS.app {n:Nat} {h:H} {v:AV} {k:Nat} {cs:List AV} (o:yS n h v k cs) (hfn:h.floor≤h.next) {z m:Nat} (hm:0<m) (hn:0<n) (bs:List AV) (hb:bs.length=m* n) (hc:AV.aG bs=true) (hr:roomy z (k+m)=true):
 ∃v' h',eR h n z v m bs=some (v',h')∧yS n h' v' (k+m) (cs++bs)∧h'.floor=h.floor∧h.next≤h'.next∧(∀i,v.id?≠some i→i≠h.next→h'.get i=h.get i)∧v'.id?=some h.next:=by
 obtain⟨hl,o⟩:=o
 have hll:(cs++bs).length=(k+m)* n:=by rw[yy,hl,hb,yq]
 rcases o with ⟨rfl,rfl⟩|⟨id,rfl,hg,hf,_⟩
 · have:cs=[]:=ada (by omega)
   subst this
   refine⟨.aI h.next 0 m n,h.alloc bs, ?_,⟨hll,.inr ⟨h.next,by simp,by simp [H.bc],by simp;omega,by omega⟩⟩,by simp,by simp,fun i _ hi=>by rw[H.bc,if_neg hi],rfl⟩
   unfold eR
   rw[if_neg (by omega),if_neg (by simp [hc];omega)]
   rw[xW]at hr
   simp only[hr,if_true]
 · have hmn:0<m* n:=Nat.mul_pos hm hn
   have hnot:¬0+(k+m)* n≤cs.length:=by rw[hl,yq];omega
   refine⟨.aI h.next 0 (k+m) n,(h.del id).alloc (cs++bs), ?_,⟨hll,.inr ⟨h.next,by simp,by simp [H.bc], ?_,by omega⟩⟩,by simp,by simp,fun i h1 h2=> ?_,rfl⟩
   · unfold eR
     rw[if_neg (by omega),if_neg (by simp [hc];omega)]
     simp only[hf,and_self,if_true,hg,xM]
     rw[if_neg hnot,if_pos ⟨by omega,hr⟩]
     simp
   · have:=h.lt id cs hg;simp;omega
   · rw[H.bc,H.kG,if_neg h2,H.eZ,if_neg]
     intro e;subst e;exact h1 rfl
theorem yS.push {n:Nat} {h:H} {v:AV} {k:Nat} {cs:List AV} (o:yS n h v k cs) (hfn:h.floor≤h.next) {z m:Nat} (hm:0<m) (hn:0<n) (bs:List AV) (hb:bs.length=m* n) (hc:AV.aG bs=true) (hr:roomy z (k+m)=true):
 ∃v' h',mR (h.alloc bs) n z v (.aI h.next 0 m n)=some (v',h')∧yS n h' v' (k+m) (cs++bs)∧h'.floor=h.floor∧h.next+1≤h'.next∧(∀i,v.id?≠some i→i<h.next→h'.get i=h.get i)∧v'.id?=some (h.next+1):=by
 have o1:yS n (h.alloc bs) v k cs:=o.mono (by simp) fun i q=>by rw[H.bc,if_neg];have:=o.lt q;omega
 obtain⟨v',h',p1,p2,p3,p4,p5,p6⟩:=o1.app (z:=z) (by simp;omega) hm hn bs hb hc hr
 refine⟨v',h', ?_,p2,by rw[p3];simp,by simpa using p4,fun i q1 q2=> ?_,by simpa using p6⟩
 · have src:aW (h.alloc bs) n (.aI h.next 0 m n)=some (m,bs):=by
    simp only[aW,if_true,H.bc,xM,xW]
    rw[if_pos (by omega),ac8,yo (by omega)]
   unfold mR;rw[src,xM];exact p1
 · rw[p5 i q1 (by simp;omega),H.bc,if_neg (by omega)]
def CD (n k:Nat) (cs:List AV):AV:=if k=0 then .aT else .aZ false cs 0 k n
theorem IG {n k:Nat} {h:H} {cs:List AV} (hl:cs.length=k* n):zZ n h (CD n k cs) k cs:=by
 unfold CD
 by_cases hk:k=0
 · subst hk
   have:cs=[]:=ada (by omega)
   subst this
   exact⟨rfl,by simp,fun _=>by simp⟩
 · rw[if_neg hk]
   refine⟨?_,hl,fun _=>by simp⟩
   simp only[aW,if_true,xW]
   rw[if_pos (by omega),ac8,yo (by omega)]
theorem yS.Ap {n:Nat} {h:H} {v:AV} {k:Nat} {l:List Int} {fl m:Nat} {t:Bool} (o:yS n h v k (ints l)) (hf:fl≤h.floor):snap h.get fl (m+2) t v=some (CD n k (ints l)):=by
 obtain⟨hl,o⟩:=o
 rw[rY]at hl
 rcases o with ⟨rfl,rfl⟩|⟨id,rfl,q,h2,hk⟩
 · rfl
 · unfold snap
   rw[if_neg (by omega),q,xM,if_pos (by rw[rY];omega)]
   rw[ac8,yo (by rw[rY];omega),A8]
   unfold CD
   rw[if_neg (by omega)];rfl
attribute [go_sem] List.map_cons List.map_nil Bool.and_true Bool.true_and Bool.and_self List.append_nil Option.map_some Option.map_none Bool.and_false Bool.false_and Bool.or_false Bool.or_true Bool.true_or Bool.false_or Bool.or_self cy.aS cy.aM Int.reduceAdd Int.reduceSub Int.reduceMul Int.reduceNeg Int.reduceToNat List.take_succ_cons List.take_zero List.drop_zero List.drop_succ_cons Int.cast_ofNat_Int Int.natCast_one Int.natCast_zero List.length_set
theorem yH:type_of% @dt∧type_of% @df∧type_of% @eqt∧type_of% @eqf∧type_of% @net∧type_of% @nef∧type_of% @wi∧type_of% @wb∧type_of% @Fp∧type_of% @Hw∧type_of% @SA∧type_of% @Cx∧type_of% @U4∧type_of% @yG∧type_of% @yN∧type_of% @yM∧type_of% @yE∧type_of% @H.ku∧type_of% @H.mj∧type_of% @H.nk∧type_of% @H.kH∧type_of% @Pm∧type_of% @Ot∧type_of% @Rn∧type_of% @Rm∧type_of% @OG∧type_of% @HI∧type_of% @Jp∧type_of% @Oi∧type_of% @QV∧type_of% @R8∧type_of% @R9∧type_of% @sD∧type_of% @rD∧type_of% @uK∧type_of% @sP∧type_of% @NV∧type_of% @RI∧type_of% @vE∧type_of% @vF∧type_of% @Lu∧type_of% @KU∧type_of% @QQ∧type_of% @QP∧type_of% @QO∧type_of% @Og∧type_of% @UD∧type_of% @RE∧type_of% @UZ∧type_of% @UY∧type_of% @UW∧type_of% @UU∧type_of% @UX∧type_of% @US∧type_of% @Hq∧type_of% @Ll∧type_of% @Lr∧type_of% @Lm∧type_of% @Jo∧type_of% @Hr∧type_of% @Fv∧type_of% @Lq∧type_of% @Dn∧type_of% @GL∧type_of% @RW∧type_of% @GH∧type_of% @GN∧type_of% @GM∧type_of% @UR∧type_of% @UQ∧type_of% @wH∧type_of% @beq_refl∧type_of% @A7∧type_of% @UT∧type_of% @Uu∧type_of% @Sq∧type_of% @Sp∧type_of% @Sn∧type_of% @I0∧type_of% @MU∧type_of% @Hk∧type_of% @Kh:=⟨@dt, @df, @eqt, @eqf, @net, @nef, @wi, @wb, @Fp, @Hw, @SA, @Cx, @U4, @yG, @yN, @yM, @yE, @H.ku, @H.mj, @H.nk, @H.kH, @Pm, @Ot, @Rn, @Rm, @OG, @HI, @Jp, @Oi, @QV, @R8, @R9, @sD, @rD, @uK, @sP, @NV, @RI, @vE, @vF, @Lu, @KU, @QQ, @QP, @QO, @Og, @UD, @RE, @UZ, @UY, @UW, @UU, @UX, @US, @Hq, @Ll, @Lr, @Lm, @Jo, @Hr, @Fv, @Lq, @Dn, @GL, @RW, @GH, @GN, @GM, @UR, @UQ, @wH, @beq_refl, @A7, @UT, @Uu, @Sq, @Sp, @Sn, @I0, @MU, @Hk, @Kh⟩
theorem Fl:type_of% @Gk∧type_of% @FX∧type_of% @FV∧type_of% @KV∧type_of% @KN∧type_of% @Dd∧type_of% @rdT∧type_of% @Sd∧type_of% @Sc∧type_of% @Sl∧type_of% @UO∧type_of% @UM∧type_of% @UN∧type_of% @UP∧type_of% @QS∧type_of% @Us∧type_of% @Up∧type_of% @Ur∧type_of% @Uq∧type_of% @A9∧type_of% @Ar∧type_of% @AA∧type_of% @Qu∧type_of% @Qt:=⟨@Gk, @FX, @FV, @KV, @KN, @Dd, @rdT, @Sd, @Sc, @Sl, @UO, @UM, @UN, @UP, @QS, @Us, @Up, @Ur, @Uq, @A9, @Ar, @AA, @Qu, @Qt⟩
theorem zX:type_of% @H.mj∧type_of% @H.kH∧type_of% @KV∧type_of% @Gk∧type_of% @H.ku∧type_of% @H.nk∧type_of% @KN∧type_of% @FV:=⟨@H.mj, @H.kH, @KV, @Gk, @H.ku, @H.nk, @KN, @FV⟩
theorem ES:type_of% @yG∧type_of% @yN∧type_of% @yM∧type_of% @yE∧type_of% @Dd∧type_of% @FX:=⟨@yG, @yN, @yM, @yE, @Dd, @FX⟩
end Ab
set_option maxRecDepth 100000
namespace Ab
open Go
theorem wrap_u32 {n:Nat} (h:n<4294967296):IntKind.wrap .u32 (n:Int)=n:=by
 have e:IntKind.wrap .u32 (n:Int)=(n:Int)%4294967296:=by simp [IntKind.wrap,IntKind.bits,IntKind.signed]
 rw[e];omega
theorem QE (n:Int):IntKind.wrap .u32 n=n%4294967296:=by simp [IntKind.wrap,IntKind.bits,IntKind.signed]
theorem wu {n:Int} (h:0≤n∧n<4294967296):IntKind.wrap .u32 n=n:=by rw[QE];omega
theorem Em {a b:Nat} (ha:a<4294967296) (hb:b<4294967296):a^^^b<4294967296:=Nat.xor_lt_two_pow (n:=32) ha hb
theorem CH {a b:Nat} (ha:a<4294967296) (hb:b<4294967296):bits .xor .u32 (a:Int) (b:Int)=((a^^^b:Nat):Int):=by
 have h3:=Em ha hb
 show IntKind.wrap .u32 (((BitVec.ofInt 32 (a:Int)^^^BitVec.ofInt 32 (b:Int)).toNat:Nat):Int)=_
 rw[BitVec.toNat_xor,AW 32 a (by omega),AW 32 b (by omega)]
 exact wrap_u32 h3
theorem HK {a:Nat} (ha:a<4294967296):bits .and .u32 (a:Int) 1=((a%2:Nat):Int):=by
 show IntKind.wrap .u32 (((BitVec.ofInt 32 (a:Int)&&&BitVec.ofInt 32 ((1:Nat):Int)).toNat:Nat):Int)=_
 rw[BitVec.toNat_and,AW 32 a (by omega),AW 32 1 (by omega),Nat.and_one_is_mod]
 exact wrap_u32 (by omega)
theorem Pj {a:Nat} (ha:a<4294967296):rF .shr .u32 (a:Int) 1=some (.int .u32 ((a/2:Nat):Int)):=by
 unfold rF
 rw[if_neg (by omega)]
 have e:(2:Int)^min (Int.toNat 1) IntKind.u32.bits=2:=by decide
 rw[e]
 show some (AV.int .u32 _)=_
 rw[Int.fdiv_eq_ediv_of_nonneg _ (by omega)]
 rfl
theorem KP {h:H} {a:Nat} (ha:a<4294967296):vH h (.int .u32 (a:Int))=some (.int .u32 ((4294967295-a:Nat):Int),h):=by
 rw[wK]
 have e:(if IntKind.u32.signed then-1 else IntKind.u32.max)=((4294967295:Nat):Int):=by decide
 rw[e,CH (by omega) ha]
 have h2:4294967295^^^a=4294967295-a:=by
  have h1:a<2^32:=by simpa using ha
  have:4294967295-a=2^32-(a+1):=by omega
  rw[this]
  apply Nat.eq_of_testBit_eq
  intro i
  rw[Nat.testBit_two_pow_sub_succ h1,Nat.testBit_xor,show 4294967295=2^32-1 from rfl,Nat.testBit_two_pow_sub_one]
  by_cases hi:i<32
  · simp [hi]
  · have:a.testBit i=false:=Nat.testBit_lt_two_pow (Nat.lt_of_lt_of_le h1 (acX (by omega) (by omega)))
    simp [hi,this]
 rw[h2]
def EY (c:Nat):Nat:=if c%2=1 then(c/2)^^^3988292384 else c/2
def FQ:Nat→Nat→Nat
 |0,c=>c
 |n+1,c=>FQ n (EY c)
def Cy (c b:Nat):Nat:=FQ 8 (c^^^b)
def Cc (s:ByteArray):Nat→Nat→Nat→Nat
 |0,_,c=>c
 |n+1,i,c=>Cc s n (i+1) (Cy c (AX s i))
theorem Gz {c:Nat} (h:c<4294967296):EY c<4294967296:=by
 unfold EY;split
 · exact Em (by omega) (by omega)
 · omega
theorem HS:∀(n:Nat) {c:Nat},c<4294967296→FQ n c<4294967296
 |0,_,h=>h
 |n+1,_,h=>HS n (Gz h)
theorem DI {c b:Nat} (hc:c<4294967296) (hb:b<256):Cy c b<4294967296:=HS 8 (Em hc (by omega))
theorem GA (s:ByteArray):∀(n i:Nat) {c:Nat},c<4294967296→Cc s n i c<4294967296
 |0,_,_,h=>h
 |n+1,i,_,h=>GA s n (i+1) (DI h (CJ s i))
theorem JM (a b d:AV) (h:H):∀(n c k:Nat),k+n=8→c<4294967296→
 ∃e',Lp AP.A [1,5,12,13,22] AP.f103L0 [(1,a),(5,.int .u32 c),(12,b),(13,d),(22,.int .i64 k)] h=some (.exit 2,e',h)∧look e' 1=a∧look e' 5=.int .u32 (FQ n c:Nat)∧look e' 12=b∧look e' 13=d
 | 0, c, k, hk, hc => by
   refine⟨[(1,a),(5,.int .u32 c),(12,b),(13,d),(22,.int .i64 k),(23,.bool false)],vW ?_,rfl,rfl,rfl,rfl⟩
   simp (disch:=omega)only[go_sem,yH,AP.f103L0]
 | n + 1, c, k, hk, hc => by
   obtain⟨e',r1,r2,r3,r4,r5⟩:=JM a b d h n (EY c) (k+1) (by omega) (Gz hc)
   have n1:((k+1:Nat):Int)=(k:Int)+1:=by omega
   have x1:=CH (a:=c/2) (b:=3988292384) (by omega) (by omega)
   have a1:=HK hc
   have s1:=Pj hc
   refine⟨e',vX ?_ r1,r2,r3,r4,r5⟩
   rw[n1]
   unfold EY
   by_cases p:c%2=1
   · rw[if_pos p]
     rw[show((3988292384:Nat):Int)=3988292384 from rfl]at x1
     simp (disch:=omega)only[go_sem,yH,AP.f103L0,a1,s1,x1]
   · rw[if_neg p]
     simp (disch:=omega)only[go_sem,yH,AP.f103L0,a1,s1]
theorem JN (s:ByteArray) (hs:s.size<1125899906842624) (h:H):∀(n i c:Nat),i+n=s.size→c<4294967296→
 ∃e',Lp AP.A [1,5,12,13] AP.f103L1 [(1,.str s),(5,.int .u32 c),(12,.int .i64 s.size),(13,.int .i64 i)] h=some (.exit 0,e',h)∧look e' 5=.int .u32 (Cc s n i c:Nat)
 | 0, i, c, hi, hc => by
   refine⟨[(1,.str s),(5,.int .u32 c),(12,.int .i64 s.size),(13,.int .i64 i),(14,.bool false)],vW ?_,rfl⟩
   simp (disch:=omega)only[go_sem,yH,AP.f103L1]
 | n + 1, i, c, hi, hc => by
   have hb:=CJ s i
   obtain⟨e',r1,r2⟩:=JN s hs h n (i+1) (Cy c (AX s i)) (by omega) (DI hc hb)
   obtain⟨e1,q1,q2,q3,q4,q5⟩:=JM (.str s) (.int .i64 s.size) (.int .i64 i) h 8 (c^^^AX s i) 0 rfl (Em hc (by omega))
   have q1':Lp AP.A [1,5,12,13,22] AP.f103L0 [(1,.str s),(5,.int .u32 (c^^^AX s i:Nat)),(12,.int .i64 s.size),(13,.int .i64 i),(22,.int .i64 0)] h=some (.exit 2,e1,h):=q1
   clear q1
   have x1:=CH hc (show AX s i<4294967296 by omega)
   have n1:((i+1:Nat):Int)=(i:Int)+1:=by omega
   refine⟨e',vX ?_ r1,r2⟩
   rw[n1]
   unfold Cy
   simp (disch:=omega)only[go_sem,yH,AP.f103L1,wu,x1,u9,q1',q2,q3,q4,q5]
def AY (a:Nat) (s:ByteArray):Nat:=4294967295-Cc s s.size 0 (4294967295-a)
theorem F6 (a:Nat) (s:ByteArray):AY a s<4294967296:=by unfold AY;omega
theorem NW (h:H) (s:ByteArray) (a:Nat) (ha:a<4294967296) (hs:s.size<1125899906842624):aV AP.A 103 [.int .i64 a,.str s] h=some (.int .i64 (AY a s:Nat),h):=by
 obtain⟨e',r1,r2⟩:=JN s hs h.eV s.size 0 (4294967295-a) (by omega) (by omega)
 have r1':Lp AP.A [1,5,12,13] AP.f103L1 [(1,.str s),(5,.int .u32 (4294967295-a:Nat)),(12,.int .i64 s.size),(13,.int .i64 0)] h.eV=some (.exit 0,e',h.eV):=r1
 clear r1
 have lt:=GA s s.size 0 (c:=4294967295-a) (by omega)
 have v1:∀g:H,vH g (.int .u32 (a:Int))=some (.int .u32 ((4294967295-a:Nat):Int),g):=fun g=>KP ha
 have v2:∀g:H,vH g (.int .u32 (Cc s s.size 0 (4294967295-a):Nat))=some (.int .u32 ((4294967295-Cc s s.size 0 (4294967295-a):Nat):Int),g):=fun g=>KP lt
 refine wN (fn:=AP.f103) (h2:=h.eV) (e:=[(4,.int .i64 (AY a s:Nat))]) rfl rfl rfl ?_ rfl rfl
 unfold AY
 simp (disch:=omega)only[go_sem,yH,AP.f103,wu,v1,v2,u9,r1',r2]
def Hx (x:Int):Bool:=decide (0≤x∧x≤4294967295)
theorem abw (h:H) (x:Int):aV AP.A 105 [.int .i64 x] h=some (.bool (Hx x),h):=by
 refine wN (fn:=AP.f105) (h2:=h.eV) (e:=[(2,.bool (Hx x))]) rfl rfl rfl ?_ rfl rfl
 unfold Hx
 by_cases c1:0≤x
 · by_cases c2:x≤4294967295
   · simp (disch:=omega)only[go_sem,yH,AP.f105]
   · simp (disch:=omega)only[go_sem,yH,AP.f105]
 · simp (disch:=omega)only[go_sem,yH,AP.f105]
def AH (s:ByteArray):Nat:=AY 0 s
theorem Mw (h:H) (s:ByteArray) (hs:s.size<1125899906842624):aV AP.A 115 [.str s] h=some (.int .i64 (AH s:Nat),h):=by
 have k1:=NW h.eV s 0 (by omega) hs
 have k1':aV AP.A 103 [.int .i64 0,.str s] h.eV=some (.int .i64 (AH s:Nat),h.eV):=k1
 refine wN (fn:=AP.f115) (h2:=h.eV) (e:=[(2,.int .i64 (AH s:Nat))]) rfl rfl rfl ?_ rfl rfl
 simp (disch:=omega)only[go_sem,yH,AP.f115,k1']
theorem Ko (a d:AV) (h:H):∀(n c k:Nat),k+n=8→c<4294967296→
 ∃e',Lp AP.A [0,1,5,6] AP.f111L0 [(0,.int .u32 c),(1,a),(5,d),(6,.int .i64 k)] h=some (.exit 2,e',h)∧look e' 1=a∧look e' 0=.int .u32 (FQ n c:Nat)∧look e' 5=d
 | 0, c, k, hk, hc => by
   refine⟨[(0,.int .u32 c),(1,a),(5,d),(6,.int .i64 k),(20,.bool false)],vW ?_,rfl,rfl,rfl⟩
   simp (disch:=omega)only[go_sem,yH,AP.f111L0]
 | n + 1, c, k, hk, hc => by
   obtain⟨e',r1,r2,r3,r4⟩:=Ko a d h n (EY c) (k+1) (by omega) (Gz hc)
   have n1:((k+1:Nat):Int)=(k:Int)+1:=by omega
   have x1:=CH (a:=c/2) (b:=3988292384) (by omega) (by omega)
   have a1:=HK hc
   have s1:=Pj hc
   refine⟨e',vX ?_ r1,r2,r3,r4⟩
   rw[n1]
   unfold EY
   by_cases p:c%2=1
   · rw[if_pos p]
     rw[show((3988292384:Nat):Int)=3988292384 from rfl]at x1
     simp (disch:=omega)only[go_sem,yH,AP.f111L0,a1,s1,x1]
   · rw[if_neg p]
     simp (disch:=omega)only[go_sem,yH,AP.f111L0,a1,s1]
theorem Kq (s:ByteArray) (hs:s.size<1125899906842624) (h:H):∀(n i c:Nat),i+n=s.size→c<4294967296→
 ∃e',Lp AP.A [0,1,5] AP.f111L1 [(0,.int .u32 c),(1,.str s),(5,.int .i64 i)] h=some (.exit 0,e',h)∧look e' 0=.int .u32 (Cc s n i c:Nat)
 | 0, i, c, hi, hc => by
   refine⟨[(0,.int .u32 c),(1,.str s),(5,.int .i64 i),(10,.bool false)],vW ?_,rfl⟩
   simp (disch:=omega)only[go_sem,yH,AP.f111L1]
 | n + 1, i, c, hi, hc => by
   have hb:=CJ s i
   obtain⟨e',r1,r2⟩:=Kq s hs h n (i+1) (Cy c (AX s i)) (by omega) (DI hc hb)
   obtain⟨e1,q1,q2,q3,q4⟩:=Ko (.str s) (.int .i64 i) h 8 (c^^^AX s i) 0 rfl (Em hc (by omega))
   have q1':Lp AP.A [0,1,5,6] AP.f111L0 [(0,.int .u32 (c^^^AX s i:Nat)),(1,.str s),(5,.int .i64 i),(6,.int .i64 0)] h=some (.exit 2,e1,h):=q1
   clear q1
   have x1:=CH hc (show AX s i<4294967296 by omega)
   have n1:((i+1:Nat):Int)=(i:Int)+1:=by omega
   refine⟨e',vX ?_ r1,r2⟩
   rw[n1]
   unfold Cy
   simp (disch:=omega)only[go_sem,yH,AP.f111L1,wu,x1,u9,q1',q2,q3,q4]
theorem YH (h:H) (s:ByteArray) (c:Nat) (hc:c<4294967296) (hs:s.size<1125899906842624):aV AP.A 111 [.int .u32 c,.str s] h=some (.int .u32 (Cc s s.size 0 c:Nat),h):=by
 obtain⟨e',r1,r2⟩:=Kq s hs h.eV s.size 0 c (by omega) hc
 have r1':Lp AP.A [0,1,5] AP.f111L1 [(0,.int .u32 c),(1,.str s),(5,.int .i64 0)] h.eV=some (.exit 0,e',h.eV):=r1
 clear r1
 refine wN (fn:=AP.f111) (h2:=h.eV) (e:=[(4,.int .u32 (Cc s s.size 0 c:Nat))]) rfl rfl rfl ?_ rfl rfl
 simp (disch:=omega)only[go_sem,yH,AP.f111,u9,r1',r2]
theorem NC (h:H) (s:ByteArray) (hs:s.size<1125899906842624):aV AP.A 101 [.str s] h=some (.int .i64 (AH s:Nat),h):=by
 have k1:=YH h.eV s 4294967295 (by omega) hs
 have k1':aV AP.A 111 [.int .u32 4294967295,.str s] h.eV=some (.int .u32 (Cc s s.size 0 4294967295:Nat),h.eV):=k1
 have lt:=GA s s.size 0 (c:=4294967295) (by omega)
 have v2:∀g:H,vH g (.int .u32 (Cc s s.size 0 4294967295:Nat))=some (.int .u32 (AH s:Nat),g):=fun g=>KP lt
 have lt2:=F6 0 s
 unfold AH at v2 ⊢
 refine wN (fn:=AP.f101) (h2:=h.eV) (e:=[(2,.int .i64 (AY 0 s:Nat))]) rfl rfl rfl ?_ rfl rfl
 simp (disch:=omega)only[go_sem,yH,AP.f101,k1',v2]
theorem IX {a s:Nat} (hs:s≤64):rF .shr .i64 (a:Int) (s:Int)=some (.int .i64 ((a/2^s:Nat):Int)):=by
 unfold rF
 rw[if_neg (by omega)]
 simp only[IntKind.bits,adq,Nat.min_eq_left hs]
 rw[Int.fdiv_eq_ediv_of_nonneg _ (Int.pow_nonneg (by omega))]
 simp
theorem SN (n:Nat):IntKind.wrap .u8 (n:Int)=((n%256:Nat):Int):=by rw[SM];omega
def RK (x i:Nat):Nat:=x/2^(8* i)%256
def zw (x k:Nat):List Nat:=(List.range k).map (RK x)
theorem Qd (x k:Nat):zw x (k+1)=zw x k++[RK x k]:=by simp [zw,List.range_succ]
theorem zk (x k:Nat):(zw x k).length=k:=by simp [zw]
def RJ (x k:Nat):ByteArray:=bytesOf (zw x k)
theorem HG {h:H} {v:AV} {k:Nat} {l:List Nat} (o:yS 1 h v k (Bt l)):wF h v (aW h 1 v)=some (.str (bytesOf l),h):=by
 rw[o.rd.1]
 simp only[wF,xM,KD]
 rcases o.2 with ⟨rfl,_⟩|⟨id,rfl,_⟩<;>rfl
theorem EV (a b:List Nat):Bt (a++b)=Bt a++Bt b:=by simp [Bt]
theorem Mr (x k id:Nat) (hk:k≤8):∀(m i:Nat) (h:H),i+m=k→h.get id=some (Bt (zw x i++List.replicate m 0))→h.floor≤id→
 ∃e' h',Lp AP.A [0,5,10,11] AP.f104L0 [(0,.int .i64 x),(5,.aI id 0 k 1),(10,.int .i64 k),(11,.int .i64 i)] h=some (.exit 0,e',h')∧look e' 5=.aI id 0 k 1∧h'.get id=some (Bt (zw x k))∧h'.floor=h.floor
 | 0, i, h, hi, hg, hf => by
   obtain rfl:i=k:=by omega
   refine⟨[(0,.int .i64 x),(5,.aI id 0 i 1),(10,.int .i64 i),(11,.int .i64 i),(12,.bool false)],h,vW ?_,rfl,by simpa using hg,rfl⟩
   simp (disch:=omega)only[go_sem,yH,AP.f104L0]
 | m + 1, i, h, hi, hg, hf => by
   have g2:(h.set id (Bt (zw x (i+1)++List.replicate m 0))).get id=some (Bt (zw x (i+1)++List.replicate m 0)):=by rw[yM rfl,hg];rfl
   obtain⟨e',h',r1,r2,r3,r4⟩:=Mr x k id hk m (i+1) _ (by omega) g2 (by simpa using hf)
   have n1:((i+1:Nat):Int)=(i:Int)+1:=by omega
   have n2:(8:Int)* (i:Int)=((8* i:Nat):Int):=by omega
   have s1:=IX (a:=x) (s:=8* i) (by omega)
   have w1:=SN (x/2^(8* i))
   have st:wP h id i 1 [.int .u8 ((x/2^(8* i)%256:Nat):Int)] (some (Bt (zw x i++List.replicate (m+1) 0)))=some (h.set id (Bt (zw x (i+1)++List.replicate m 0))):=by
    rw[xm hf (by simp [zk]) rfl]
    congr 2
    rw[Qd,EV,EV,EV,List.set_append_right _ _ (by simp [zk]),acY]
    simp [zk,Bt,List.replicate_succ,RK]
   refine⟨e',h',vX ?_ r1,r2,r3,by rw[r4];simp⟩
   rw[n1]
   simp (disch:=omega)only[go_sem,yH,AP.f104L0,n2,s1,w1,hg,st]
theorem ER (h:H) (x k:Nat) (hk:k≤8) (hk0:0<k):aV AP.A 104 [.int .i64 x,.int .i64 k] h=some (.str (RJ x k),h):=by
 obtain⟨h1,eh1⟩:∃g,g=h.eV.alloc (A3 k [.int .u8 0]):=⟨_,rfl⟩
 have hz:A3 k [.int .u8 0]=Bt (zw x 0++List.replicate k 0):=by
  unfold A3;rw[II];simp [Bt,zw]
 have g1:h1.get h.next=some (Bt (zw x 0++List.replicate k 0)):=by rw[eh1,yG (by simp),hz]
 obtain⟨e',h',r1,r2,r3,r4⟩:=Mr x k h.next hk k 0 h1 (by omega) g1 (by rw[eh1];simp)
 have r1':Lp AP.A [0,5,10,11] AP.f104L0 [(0,.int .i64 x),(5,.aI h.next 0 k 1),(10,.int .i64 k),(11,.int .i64 0)] h1=some (.exit 0,e',h'):=r1
 clear r1
 have o:yS 1 h' (.aI h.next 0 k 1) k (Bt (zw x k)):=⟨by simp [zk],.inr ⟨h.next,rfl,r3,by rw[r4,eh1];simp,hk0⟩⟩
 have b:=HG o
 have hn:h.eV.next=h.next:=rfl
 refine wN (fn:=AP.f104) (h2:=h') (e:=[(4,.str (RJ x k))]) rfl rfl rfl ?_ rfl rfl
 unfold RJ
 simp (disch:=omega)only[go_sem,yH,AP.f104,u9,hn,←eh1,r1',r2,b]
theorem YO {k:IntKind} {i:Int} {n:Nat} (h:0≤i∧i<n):dG (.int k i) n=some i.toNat:=by simp [dG,pS,h]
def okB (b:Nat):Bool:=decide (97≤b∧b≤122∨48≤b∧b≤57∨b=46∨b=45∨b=95)
def B8 (s:ByteArray):Nat→Nat→Bool
 |0,_=>false
 |n+1,i=>decide (i=AX s n)||B8 s n i
def TR:ByteArray:=⟨#[97,98,99,100,101,102,103,104,105,106,107,108,109,110,111,112,113,114,115,116,117,118,119,120,121,122,48,49,50,51,52,53,54,55,56,57,46,45,95]⟩
def bT (P:Nat→Bool):List AV:=pL 256 fun i=>.bool (P i)
theorem ET (P:Nat→Bool):(bT P).length=256:=by simp [bT]
theorem U5 (P:Nat→Bool) {i:Nat} (h:i<256):(bT P)[i]?=some (.bool (P i)):=ig h
theorem U7 (s:ByteArray) (n:Nat):(bT (B8 s n)).set (AX s n) (.bool true)=bT (B8 s (n+1)):=by
 unfold bT
 rw[wz (CJ s n)]
 congr 1
 funext i
 have e:B8 s (n+1) i=(decide (i=AX s n)||B8 s n i):=rfl
 rw[e]
 unfold wS
 by_cases h:i=AX s n
 · simp [h]
 · simp [h]
theorem YS:bT (B8 TR 39)=bT okB:=by
 unfold bT pL
 refine adm fun i hi=> ?_
 have hi':i<256:=adB.1 hi
 have:∀i,i<256→B8 TR 39 i=okB i:=by decide+kernel
 rw[this i hi']
theorem Iu (g:Nat→Option (List AV)) (fl n:Nat) (t:Bool):∀l:List Bool,gV (snap g fl (n+1) t) (l.map .bool)=some (l.map .bool)
 |[]=>rfl
 | b :: l => by
   have:=Iu g fl n t l
   simp only[acW,gV,this];rfl
theorem TN (g:Nat→Option (List AV)) (fl n:Nat) (t:Bool) (P:Nat→Bool):gV (snap g fl (n+1) t) (bT P)=some (bT P):=by
 have e:bT P=((List.range 256).map P).map .bool:=by unfold bT pL;rw[adz];rfl
 rw[e];exact Iu g fl n t _
theorem QW (e:Env):bh e (.alloc [.bool false,.bool false,.bool false,.bool false,.bool false,.bool false,.bool false,.bool false,.bool false,.bool false,.bool false,.bool false,.bool false,.bool false,.bool false,.bool false,.bool false,.bool false,.bool false,.bool false,.bool false,.bool false,.bool false,.bool false,.bool false,.bool false,.bool false,.bool false,.bool false,.bool false,.bool false,.bool false,.bool false,.bool false,.bool false,.bool false,.bool false,.bool false,.bool false,.bool false,.bool false,.bool false,.bool false,.bool false,.bool false,.bool false,.bool false,.bool false,.bool false,.bool false,.bool false,.bool false,.bool false,.bool false,.bool false,.bool false,.bool false,.bool false,.bool false,.bool false,.bool false,.bool false,.bool false,.bool false,.bool false,.bool false,.bool false,.bool false,.bool false,.bool false,.bool false,.bool false,.bool false,.bool false,.bool false,.bool false,.bool false,.bool false,.bool false,.bool false,.bool false,.bool false,.bool false,.bool false,.bool false,.bool false,.bool false,.bool false,.bool false,.bool false,.bool false,.bool false,.bool false,.bool false,.bool false,.bool false,.bool false,.bool false,.bool false,.bool false,.bool false,.bool false,.bool false,.bool false,.bool false,.bool false,.bool false,.bool false,.bool false,.bool false,.bool false,.bool false,.bool false,.bool false,.bool false,.bool false,.bool false,.bool false,.bool false,.bool false,.bool false,.bool false,.bool false,.bool false,.bool false,.bool false,.bool false,.bool false,.bool false,.bool false,.bool false,.bool false,.bool false,.bool false,.bool false,.bool false,.bool false,.bool false,.bool false,.bool false,.bool false,.bool false,.bool false,.bool false,.bool false,.bool false,.bool false,.bool false,.bool false,.bool false,.bool false,.bool false,.bool false,.bool false,.bool false,.bool false,.bool false,.bool false,.bool false,.bool false,.bool false,.bool false,.bool false,.bool false,.bool false,.bool false,.bool false,.bool false,.bool false,.bool false,.bool false,.bool false,.bool false,.bool false,.bool false,.bool false,.bool false,.bool false,.bool false,.bool false,.bool false,.bool false,.bool false,.bool false,.bool false,.bool false,.bool false,.bool false,.bool false,.bool false,.bool false,.bool false,.bool false,.bool false,.bool false,.bool false,.bool false,.bool false,.bool false,.bool false,.bool false,.bool false,.bool false,.bool false,.bool false,.bool false,.bool false,.bool false,.bool false,.bool false,.bool false,.bool false,.bool false,.bool false,.bool false,.bool false,.bool false,.bool false,.bool false,.bool false,.bool false,.bool false,.bool false,.bool false,.bool false,.bool false,.bool false,.bool false,.bool false,.bool false,.bool false,.bool false,.bool false,.bool false,.bool false,.bool false,.bool false,.bool false,.bool false,.bool false,.bool false,.bool false,.bool false,.bool false,.bool false,.bool false,.bool false,.bool false,.bool false,.bool false,.bool false,.bool false,.bool false,.bool false,.bool false,.bool false])=some (bT fun _=>false,fun i=>.aH i 0):=rfl
theorem OZ (s:ByteArray) (hs:s.size<100000) (h7:∀i,i<s.size→AX s i<128) (id:Nat):∀(m n:Nat) (h:H),n+m=s.size→h.get id=some (bT (B8 s n))→h.floor≤id→
 ∃e' h',Lp AP.A [0,2,4] AP.f127L0 [(0,.str s),(2,.aH id 0),(4,.int .i64 n)] h=some (.exit 0,e',h')∧look e' 2=.aH id 0∧h'.get id=some (bT (B8 s s.size))∧h'.floor=h.floor
 | 0, n, h, hn, hg, hf => by
   obtain rfl:n=s.size:=by omega
   refine⟨[(0,.str s),(2,.aH id 0),(4,.int .i64 s.size),(9,.bool false)],h,vW ?_,rfl,hg,rfl⟩
   simp (disch:=omega)only[go_sem,yH,AP.f127L0]
 | m + 1, n, h, hn, hg, hf => by
   have g2:(h.set id (bT (B8 s (n+1)))).get id=some (bT (B8 s (n+1))):=by rw[yM rfl,hg];rfl
   obtain⟨e',h',r1,r2,r3,r4⟩:=OZ s hs h7 id m (n+1) _ (by omega) g2 (by simpa using hf)
   have n1:((n+1:Nat):Int)=(n:Int)+1:=by omega
   have hb:=CJ s n
   have hb7:=h7 n (by omega)
   have ia:dG (.int .u8 (AX s n:Nat)) 256=some (AX s n):=by rw[YO (by omega)];rfl
   have st:wP h id (AX s n) 1 [.bool true] (some (bT (B8 s n)))=some (h.set id (bT (B8 s (n+1)))):=by rw[xm hf (by rw[ET];exact hb) rfl,U7]
   refine⟨e',h',vX ?_ r1,r2,r3,by rw[r4];simp⟩
   rw[n1]
   generalize bT (B8 s n)=T at *
   generalize bT (B8 s (n+1))=T2 at *
   simp (disch:=omega)only[go_sem,yH,AP.f127L0,ia,hg,st]
theorem Aj {h:H} {id n:Nat} {v cs:List AV} (hf:h.floor≤id) (hv:v.length=n) (hc:cs.length=n) (hs:AV.aG v=true):wP h id 0 n v (some cs)=some (h.set id v):=by
 rw[Pm]
 have e:setFrom cs 0 v=v:=by
  have:=Ct cs v [] [] (by omega)
  simpa using this
 simp [hf,hv,hc,hs,e,Bb]
theorem Ut (P:Nat→Bool):AV.aG (bT P)=true:=by
 have e:bT P=((List.range 256).map P).map .bool:=by unfold bT pL;rw[adz];rfl
 rw[e]
 generalize (List.range 256).map P=l
 induction l with
 |nil=>rfl
 |cons b l ih=>simp [ih]
theorem Yw (P:Nat→Bool):jg true 256 (bT P) 0=some (.agg (bT P)):=by
 simp only[jg,if_true]
 rw[if_pos (by rw[ET];omega),ac8,yo (by rw[ET];omega)]
theorem TO (h:H) (s:ByteArray) (hs:s.size<100000) (h7:∀i,i<s.size→AX s i<128):aV AP.A 127 [.str s] h=some (.cf [.agg (bT (B8 s s.size)),.bool true],h):=by
 obtain⟨h1,eh1⟩:∃g,g=h.eV.alloc (bT fun _=>false):=⟨_,rfl⟩
 have g1:h1.get h.next=some (bT (B8 s 0)):=by rw[eh1,yG (by simp)];rfl
 obtain⟨e',h',r1,r2,r3,r4⟩:=OZ s hs h7 h.next s.size 0 h1 (by omega) g1 (by rw[eh1];simp)
 have r1':Lp AP.A [0,2,4] AP.f127L0 [(0,.str s),(2,.aH h.next 0),(4,.int .i64 0)] h1=some (.exit 0,e',h'):=r1
 clear r1
 obtain⟨h2,eh2⟩:∃g,g=h'.set h.next (bT (B8 s s.size)):=⟨_,rfl⟩
 have st:wP h' h.next 0 256 (bT (B8 s s.size)) (some (bT (B8 s s.size)))=some h2:=by
  rw[Aj (by rw[r4,eh1];simp) (ET _) (ET _) (Ut _),eh2]
 have g2:h2.get h.next=some (bT (B8 s s.size)):=by rw[eh2,yM rfl,r3];rfl
 have hn:h.eV.next=h.next:=rfl
 have rd:=Yw (B8 s s.size)
 refine wN (fn:=AP.f127) (h2:=h2) (e:=[(2,.aH h.next 0),(3,.bool true)]) (vs:=[.agg (bT (B8 s s.size)),.bool true]) rfl rfl rfl ?_ ?_ ?_
 · generalize bT (B8 s s.size)=T at *
   simp (disch:=omega)only[go_sem,AP.f127,QW,hn,←eh1,u9,r1',r2,r3,rd,st]
 · simp only[AP.f127,dh,pB,oW,tR,g2,vR,rd,nu,ne_eq,Nat.reduceEqDiff,not_false_eq_true]
   rfl
 · show(gV (snap h2.get h.next 15 true) [.agg (bT (B8 s s.size)),.bool true]).bind _=_
   have m1:snap h2.get h.next 15 true (.agg (bT (B8 s s.size)))=some (.agg (bT (B8 s s.size))):=by
    unfold snap;rw[TN];rfl
   simp only[gV,m1];rfl
theorem UE (h:H) (id b:Nat) (P:Nat→Bool) (hg:h.get id=some (bT P)) (hb:b<256):aV AP.A 132 [.aH id 0,.int .u8 b] h=some (.bool (P b),h):=by
 have ia:dG (.int .u8 b) 256=some b:=by rw[YO (by omega)];congr 1
 have g:=U5 P hb
 refine wo (fn:=AP.f132) (h2:=h) (e:=[(4,.bool (P b))]) (vs:=[.bool (P b)]) rfl rfl rfl ?_ rfl
 generalize bT P=T at *
 simp (disch:=omega)only[go_sem,yH,AP.f132,ia,hg,g]
theorem QU {s:ByteArray} {n:Nat} (hn:n≤s.size):pT (.str s) none (some (.int .i64 n))=some (.str (s.extract 0 n)):=SZ hn
theorem S7 {s:ByteArray} {n:Nat} (hn:n≤s.size):pT (.str s) (some (.int .i64 n)) none=some (.str (s.extract n s.size)):=by
 have:mu (.int .i64 n) s.size=some n:=MQ hn
 simp [pT,aF,this]
theorem Ht {s:ByteArray} {a b i:Nat} (hb:b≤s.size) (hi:a+i<b):AX (s.extract a b) i=AX s (a+i):=by
 have e:(s.extract a b)[i]?=s[a+i]?:=by
  show(s.extract a b).data[i]?=s.data[a+i]?
  rw[ByteArray.data_extract,Array.getElem?_extract]
  have:s.data.size=s.size:=rfl
  rw[if_pos (by omega)]
 unfold AX;rw[e]
theorem Gm {s:ByteArray} {a b:Nat} (hb:b≤s.size):(s.extract a b).size=b-a:=by simp [ByteArray.size_extract];omega
theorem OE (s:ByteArray):s.extract 0 s.size=s:=by
 apply ByteArray.ext
 rw[ByteArray.data_extract]
 exact Array.extract_size
theorem Tt (s:ByteArray) {n m:Nat} (hm:m≤n):(s.extract 0 n).extract 0 m=s.extract 0 m:=by
 apply ByteArray.ext
 rw[ByteArray.data_extract,ByteArray.data_extract,ByteArray.data_extract,Array.extract_extract]
 simp [hm]
theorem IJ (id : Nat) (P : Nat → Bool) (h : H) (hg : h.get id = some (bT P)) : ∀ (n : Nat) (s : ByteArray), s.size = n → n < 100000 →
 ∃e' m,Lp AP.A [0,1] AP.f129L0 [(0,.str s),(1,.aH id 0)] h=some (.exit 0,e',h)∧look e' 0=.str (s.extract 0 m)∧m≤s.size∧(∀i,m≤i→i<s.size→P (AX s i)=true)∧(0<m→P (AX s (m-1))=false)
 | 0, s, hs, hn => by
   refine⟨[(0,.str s),(1,.aH id 0),(7,.bool false)],0,vW ?_, ?_,by omega,fun i h1 h2=>by omega,fun q=>by omega⟩
   · simp (disch:=omega)only[go_sem,yH,AP.f129L0]
   · show AV.str s=_
     congr 1
     have:=OE s
     rw[hs]at this
     exact this.symm
 | n + 1, s, hs, hn => by
   have hb:=CJ s n
   have k1:=UE h id (AX s n) P hg hb
   have n1:(s.size:Int)-1=(n:Int):=by omega
   have sl:=QU (s:=s) (n:=n) (by omega)
   by_cases c:P (AX s n)=true
   · rw [c] at k1
     obtain⟨e',m,r1,r2,r3,r4,r5⟩:=IJ id P h hg n (s.extract 0 n) (by rw[Gm (by omega)];omega) (by omega)
     rw[Gm (by omega)]at r3 r4
     refine⟨e',m,vX ?_ r1, ?_,by omega,fun i h1 h2=> ?_,fun q=> ?_⟩
     · simp (disch:=omega)only[go_sem,yH,AP.f129L0,n1,k1,sl]
     · rw[r2];congr 1;exact Tt s r3
     · by_cases hi:i=n
       · rw[hi];exact c
       · have:=r4 i h1 (by omega)
         rwa [Ht (by omega) (by omega),xW]at this
     · have:=r5 q
       rwa [Ht (by omega) (by omega),xW]at this
   · have c':P (AX s n)=false:=by simpa using c
     rw[c']at k1
     refine⟨[(0,.str s),(1,.aH id 0),(15,.bool true)],s.size,vW ?_, ?_,xQ _,fun i h1 h2=>by omega,fun q=>by rw[hs];exact c'⟩
     · simp (disch:=omega)only[go_sem,yH,AP.f129L0,n1,k1]
     · show AV.str s=_
       congr 1
       exact(OE s).symm
theorem WC (s:ByteArray) {n:Nat} (h:s.size=n+1):(s.extract 1 s.size).size=n:=by rw[Gm (xQ _)];omega
theorem JS (id : Nat) (P : Nat → Bool) (h : H) (hg : h.get id = some (bT P)) : ∀ (n : Nat) (s : ByteArray), s.size = n → n < 100000 → (0 < n → P (AX s (n - 1)) = false) →
 ∃e' r,Lp AP.A [0,1] AP.f128L0 [(0,.str s),(1,.aH id 0)] h=some (.exit 0,e',h)∧look e' 0=.str r∧(r.size=0↔n=0)
 | 0, s, hs, hn, hp => by
   refine⟨[(0,.str s),(1,.aH id 0),(7,.bool false)],s,vW ?_,rfl,by omega⟩
   simp (disch:=omega)only[go_sem,yH,AP.f128L0]
 | n + 1, s, hs, hn, hp => by
   have hb:=CJ s 0
   have k1:=UE h id (AX s 0) P hg hb
   have sl:pT (.str s) (some (.int .i64 1)) none=some (.str (s.extract 1 s.size)):=S7 (s:=s) (n:=1) (by omega)
   have ix:om (.str s) (.int .i64 0)=some (.int .u8 (AX s 0:Nat)):=Hw (by omega)
   by_cases c:P (AX s 0)=true
   · rw[c]at k1
     have hn0:n≠0:=fun e=>by subst e;have:=hp (by omega);simp only[xW,Nat.sub_self]at this;rw[c]at this;cases this
     obtain⟨e',r,r1,r2,r3⟩:=JS id P h hg n (s.extract 1 s.size) (WC s hs) (by omega) (fun q=>by
      rw[Ht (xQ _) (by omega),show 1+(n-1)=n+1-1 by omega];exact hp (by omega))
     refine⟨e',r,vX ?_ r1,r2,by omega⟩
     clear hp
     simp (disch:=omega)only[go_sem,dt,df,Fp,AP.f128L0,k1,sl,ix,acR,ac5]
   · have c':P (AX s 0)=false:=by simpa using c
     rw[c']at k1
     refine⟨[(0,.str s),(1,.aH id 0),(12,.bool true)],s,vW ?_,rfl,by omega⟩
     clear hp
     simp (disch:=omega)only[go_sem,dt,df,Fp,AP.f128L0,k1,sl,ix,acR,ac5]
def Fq (s:ByteArray):Bool:=(List.range s.size).all fun i=>okB (AX s i)
theorem Iv:TR.size=39:=rfl
theorem U6:bT (B8 TR TR.size)=bT okB:=YS
theorem acp (h:H) (s:ByteArray) (id:Nat) (P:Nat→Bool) (hg:h.get id=some (bT P)) (hs:s.size<100000) (hp:0<s.size→P (AX s (s.size-1))=false):∃r,aV AP.A 128 [.str s,.aH id 0] h=some (.str r,h)∧(r.size=0↔s.size=0):=by
 obtain⟨e',r,r1,r2,r3⟩:=JS id P h hg s.size s rfl hs hp
 refine⟨r,wo (fn:=AP.f128) (h2:=h) (e:=[(4,.str r)]) (vs:=[.str r]) rfl rfl rfl ?_ rfl,r3⟩
 clear hp
 simp only[go_sem,AP.f128,u9,r1,r2]
theorem acq (h:H) (s:ByteArray) (id:Nat) (P:Nat→Bool) (hg:h.get id=some (bT P)) (hs:s.size<100000):
 ∃m,aV AP.A 129 [.str s,.aH id 0] h=some (.str (s.extract 0 m),h)∧m≤s.size∧(∀i,m≤i→i<s.size→P (AX s i)=true)∧(0<m→P (AX s (m-1))=false):=by
 obtain⟨e',m,r1,r2,r3,r4,r5⟩:=IJ id P h hg s.size s rfl hs
 refine⟨m,wo (fn:=AP.f129) (h2:=h) (e:=[(4,.str (s.extract 0 m))]) (vs:=[.str (s.extract 0 m)]) rfl rfl rfl ?_ rfl,r3,r4,r5⟩
 simp only[go_sem,AP.f129,u9,r1,r2]
theorem N8 {a b:ByteArray} (h:a≠b):(a.data.toList==b.data.toList)=false:=by
 rw[beq_eq_false_iff_ne]
 intro e
 apply h
 apply ByteArray.ext
 exact Array.toList_inj.1 e
theorem MW (a:ByteArray):(a.data.toList==a.data.toList)=true:=by simp
theorem YG (h : H) (s : ByteArray) (h0 : 0 < s.size) (hs : s.size < 100000) : ∃ r, aV AP.A 124 [.str s, .str TR] h = some (.str r, h) ∧ (r.size = 0 ↔ Fq s = true) := by
 have m1:=TO h.eV TR (by rw[Iv];omega) (by rw[Iv];decide+kernel)
 rw[U6]at m1
 obtain⟨h1,eh1⟩:∃g,g=h.eV.alloc (bT fun _=>false):=⟨_,rfl⟩
 have hn:h.eV.next=h.next:=rfl
 have g1:h1.get h.next=some (bT fun _=>false):=by rw[eh1,yG (by simp)]
 obtain⟨h2,eh2⟩:∃g,g=h1.set h.next (bT okB):=⟨_,rfl⟩
 have st:wP h1 h.next 0 256 (bT okB) (some (bT fun _=>false))=some h2:=by
  rw[Aj (by rw[eh1];simp) (ET _) (ET _) (Ut _),eh2]
 have g2:h2.get h.next=some (bT okB):=by rw[eh2,yM rfl,g1];rfl
 obtain⟨m,a1,a2,a3,a4⟩:=acq h2 s h.next okB g2 hs
 have sz:=Gm (s:=s) (a:=0) (b:=m) a2
 obtain⟨r,b1,b2⟩:=acp h2 (s.extract 0 m) h.next okB g2 (by omega) (fun q=>by
  rw[sz,Nat.sub_zero,Ht a2 (by omega),xW];exact a4 (by omega))
 refine⟨r, ?_, ?_⟩
 · have e1:bH .eql (.str s) (.str ⟨#[]⟩)=some (.bool false):=by
    rw[DN,N8];intro e;rw[e]at h0;exact absurd h0 (by decide)
   have e2:bH .eql (.str TR) (.str ⟨#[]⟩)=some (.bool false):=by
    rw[DN,N8];intro e;have:=Iv;rw[e]at this;exact absurd this (by decide)
   have l2:jZ true (.str TR)=some (.int .i64 39):=rfl
   refine wN (fn:=AP.f124) (h2:=h2) (e:=[(4,.str r)]) rfl rfl rfl ?_ rfl rfl
   clear a3 a4
   generalize bT okB=T at *
   generalize hT:(bT fun _=>false)=T0 at *
   have ba:∀e:Env,bh e (.alloc [.bool false,.bool false,.bool false,.bool false,.bool false,.bool false,.bool false,.bool false,.bool false,.bool false,.bool false,.bool false,.bool false,.bool false,.bool false,.bool false,.bool false,.bool false,.bool false,.bool false,.bool false,.bool false,.bool false,.bool false,.bool false,.bool false,.bool false,.bool false,.bool false,.bool false,.bool false,.bool false,.bool false,.bool false,.bool false,.bool false,.bool false,.bool false,.bool false,.bool false,.bool false,.bool false,.bool false,.bool false,.bool false,.bool false,.bool false,.bool false,.bool false,.bool false,.bool false,.bool false,.bool false,.bool false,.bool false,.bool false,.bool false,.bool false,.bool false,.bool false,.bool false,.bool false,.bool false,.bool false,.bool false,.bool false,.bool false,.bool false,.bool false,.bool false,.bool false,.bool false,.bool false,.bool false,.bool false,.bool false,.bool false,.bool false,.bool false,.bool false,.bool false,.bool false,.bool false,.bool false,.bool false,.bool false,.bool false,.bool false,.bool false,.bool false,.bool false,.bool false,.bool false,.bool false,.bool false,.bool false,.bool false,.bool false,.bool false,.bool false,.bool false,.bool false,.bool false,.bool false,.bool false,.bool false,.bool false,.bool false,.bool false,.bool false,.bool false,.bool false,.bool false,.bool false,.bool false,.bool false,.bool false,.bool false,.bool false,.bool false,.bool false,.bool false,.bool false,.bool false,.bool false,.bool false,.bool false,.bool false,.bool false,.bool false,.bool false,.bool false,.bool false,.bool false,.bool false,.bool false,.bool false,.bool false,.bool false,.bool false,.bool false,.bool false,.bool false,.bool false,.bool false,.bool false,.bool false,.bool false,.bool false,.bool false,.bool false,.bool false,.bool false,.bool false,.bool false,.bool false,.bool false,.bool false,.bool false,.bool false,.bool false,.bool false,.bool false,.bool false,.bool false,.bool false,.bool false,.bool false,.bool false,.bool false,.bool false,.bool false,.bool false,.bool false,.bool false,.bool false,.bool false,.bool false,.bool false,.bool false,.bool false,.bool false,.bool false,.bool false,.bool false,.bool false,.bool false,.bool false,.bool false,.bool false,.bool false,.bool false,.bool false,.bool false,.bool false,.bool false,.bool false,.bool false,.bool false,.bool false,.bool false,.bool false,.bool false,.bool false,.bool false,.bool false,.bool false,.bool false,.bool false,.bool false,.bool false,.bool false,.bool false,.bool false,.bool false,.bool false,.bool false,.bool false,.bool false,.bool false,.bool false,.bool false,.bool false,.bool false,.bool false,.bool false,.bool false,.bool false,.bool false,.bool false,.bool false,.bool false,.bool false,.bool false,.bool false,.bool false,.bool false,.bool false,.bool false,.bool false,.bool false,.bool false,.bool false,.bool false,.bool false,.bool false,.bool false,.bool false,.bool false,.bool false,.bool false,.bool false,.bool false,.bool false,.bool false,.bool false])=some (T0,fun i=>.aH i 0):=fun e=>by rw[QW,hT]
   simp (disch:=omega)only[go_sem,AP.f124,ba,hn,←eh1,e1,e2,l2,eqf,m1,g1,st,a1,b1]
 · rw [b2, sz]
   unfold Fq
   rw[adp]
   constructor
   · intro q i hi
     exact a3 i (by omega) (adB.1 hi)
   · intro q
     by_cases hm:m=0
     · omega
     · have:=a4 (by omega)
       rw[q (m-1) (adB.2 (by omega))]at this
       cases this
def Re:ByteArray:=⟨#[46]⟩
def LU:ByteArray:=⟨#[46,46]⟩
def Ao (s:ByteArray):Bool:=decide (1≤s.size)&&(decide (s.size≤8)&&(Fq s&&(!(s.data.toList==Re.data.toList)&& !(s.data.toList==LU.data.toList))))
theorem Yp (h : H) (s : ByteArray) (hs : s.size < 1125899906842624) : aV AP.A 121 [.str s] h = some (.bool (Ao s), h) := by
 refine wN (fn:=AP.f121) (h2:=h.eV) (e:=[(2,.bool (Ao s))]) rfl rfl rfl ?_ rfl rfl
 unfold Ao
 by_cases c1:1≤s.size
 · by_cases c2:s.size≤8
   · obtain⟨r,t1,t2⟩:=YG h.eV s (by omega) (by omega)
     have t1':aV AP.A 124 [.str s,.str ⟨#[97,98,99,100,101,102,103,104,105,106,107,108,109,110,111,112,113,114,115,116,117,118,119,120,121,122,48,49,50,51,52,53,54,55,56,57,46,45,95]⟩] h.eV=some (.str r,h.eV):=t1
     have e1:bH .eql (.str r) (.str ⟨#[]⟩)=some (.bool (Fq s)):=by
      rw[DN]
      by_cases q:Fq s=true
      · rw[q]
        have:r=⟨#[]⟩:=by
         apply ByteArray.ext
         exact Array.size_eq_zero_iff.1 (t2.2 q)
        rw[this,MW]
      · have q':Fq s=false:=by simpa using q
        rw[q',N8]
        intro e
        rw[e]at t2
        exact q (t2.1 rfl)
     have e2:bH .neq (.str s) (.str ⟨#[46]⟩)=some (.bool (!(s.data.toList==Re.data.toList))):=K8 _ _
     have e3:bH .neq (.str s) (.str ⟨#[46,46]⟩)=some (.bool (!(s.data.toList==LU.data.toList))):=K8 _ _
     clear t1 t2
     generalize (!(s.data.toList==Re.data.toList))=B2 at *
     generalize (!(s.data.toList==LU.data.toList))=B3 at *
     generalize Fq s=B1 at *
     cases B1<;>cases B2<;>cases B3<;>simp (disch:=omega)only[go_sem,yH,AP.f121,t1',e1,e2,e3]
   · simp (disch:=omega)only[go_sem,yH,AP.f121]
 · simp (disch:=omega)only[go_sem,yH,AP.f121]
theorem O5 (b:Nat):okB b=true↔97≤b∧b≤122∨48≤b∧b≤57∨b=46∨b=45∨b=95:=by simp [okB]
def Cm (s:ByteArray):Nat→Nat→Bool
 |0,_=>true
 |n+1,i=>okB (AX s i)&&Cm s n (i+1)
theorem HD (s:ByteArray):∀n i,Cm s n i=(List.range n).all fun j=>okB (AX s (i+j))
 |0,_=>rfl
 | n + 1, i => by
   rw[Cm,HD s n (i+1),List.range_succ_eq_map,List.all_cons,List.all_map]
   simp only[adC]
   congr 1
   refine adu (fun f=>(List.range n).all f) ?_
   funext j
   simp only[Function.comp,Nat.succ_eq_add_one]
   rw[show i+(j+1)=i+1+j by omega]
theorem O4 (s : ByteArray) (hs : s.size < 100000) (h : H) : ∀ (n i : Nat), i + n = s.size →
 (∃e',Lp AP.A [0,3] AP.f173L0 [(0,.str s),(3,.int .i64 i)] h=some (.exit 0,e',h)∧Cm s n i=true)∨
 (∃e',Lp AP.A [0,3] AP.f173L0 [(0,.str s),(3,.int .i64 i)] h=some (.ret,e',h)∧look e' 2=.bool false∧Cm s n i=false)
 | 0, i, hi => by
   left
   refine⟨[(0,.str s),(3,.int .i64 i),(24,.bool false)],vW ?_,rfl⟩
   simp (disch:=omega)only[go_sem,yH,AP.f173L0]
 | n + 1, i, hi => by
   have hb:=CJ s i
   have n1:((i+1:Nat):Int)=(i:Int)+1:=by omega
   have ix:om (.str s) (.int .i64 i)=some (.int .u8 (AX s i:Nat)):=by rw[Hw (by omega),Cx]
   by_cases c:okB (AX s i)=true
   · have e:Cm s (n+1) i=Cm s n (i+1):=by simp [Cm,c]
     rw[e]
     have ih:=O4 s hs h n (i+1) (by omega)
     rw[O5]at c
     generalize AX s i=b at *
     have step:aP (aV AP.A) bL AP.f173L0 (aC [(0,.str s),(3,.int .i64 i)] [0,3]) h=some (.normal,[(0,.str s),(3,.int .i64 ((i:Int)+1))],h):=by
      clear ih e
      rcases c with c|c|c|c|c
      · simp (disch:=omega)only[go_sem,yH,AP.f173L0,ix]
      · simp (disch:=omega)only[go_sem,yH,AP.f173L0,ix]
      · simp (disch:=omega)only[go_sem,yH,AP.f173L0,ix]
      · simp (disch:=omega)only[go_sem,yH,AP.f173L0,ix]
      · simp (disch:=omega)only[go_sem,yH,AP.f173L0,ix]
     rw[n1]at ih
     rcases ih with ⟨e',r1,r2⟩|⟨e',r1,r2,r3⟩
     · exact .inl ⟨e',vX step r1,r2⟩
     · exact .inr ⟨e',vX step r1,r2,r3⟩
   · right
     refine⟨[(2,.bool false)],wD ?_,rfl,by simp [Cm,c]⟩
     rw[O5]at c
     generalize AX s i=b at *
     have c1:¬(97≤b∧b≤122):=by omega
     have c2:¬(48≤b∧b≤57):=by omega
     have c3:¬b=46:=by omega
     have c4:¬b=45:=by omega
     have c5:¬b=95:=by omega
     clear c
     by_cases d1:b<97
     · by_cases d2:b<48
       · clear c1 c2;simp (disch:=omega)only[go_sem,yH,AP.f173L0,ix]
       · have:57<b:=by omega
         clear c1 c2;simp (disch:=omega)only[go_sem,yH,AP.f173L0,ix]
     · have:122<b:=by omega
       have d2:¬b<48:=by omega
       clear c1 c2;simp (disch:=omega)only[go_sem,yH,AP.f173L0,ix]
theorem O0 (h : H) (s : ByteArray) (hs : s.size < 1125899906842624) : aV AP.A 173 [.str s] h = some (.bool (Ao s), h) := by
 have e2:bH .eql (.str s) (.str ⟨#[46]⟩)=some (.bool (s.data.toList==Re.data.toList)):=DN _ _
 have e3:bH .eql (.str s) (.str ⟨#[46,46]⟩)=some (.bool (s.data.toList==LU.data.toList)):=DN _ _
 unfold Ao
 generalize (s.data.toList==Re.data.toList)=B2 at *
 generalize (s.data.toList==LU.data.toList)=B3 at *
 by_cases c1:s.size<1
 · refine wN (fn:=AP.f173) (h2:=h.eV) (e:=[(2,.bool false)]) rfl rfl rfl ?_ rfl (by rw[acL (show¬1≤s.size by omega)];rfl)
   simp (disch:=omega)only[go_sem,yH,AP.f173]
 by_cases c2:8<s.size
 · refine wN (fn:=AP.f173) (h2:=h.eV) (e:=[(2,.bool false)]) rfl rfl rfl ?_ rfl (by rw[acL (show¬s.size≤8 by omega),adg,ac7];rfl)
   simp (disch:=omega)only[go_sem,yH,AP.f173]
 rw[acO (show 1≤s.size by omega),acO (show s.size≤8 by omega),adn,adn]
 cases B2 with
 | true =>
   refine wN (fn:=AP.f173) (h2:=h.eV) (e:=[(2,.bool false)]) rfl rfl rfl ?_ rfl (by rw[Bool.not_true,adg,ac7];rfl)
   simp (disch:=omega)only[go_sem,yH,AP.f173,e2]
 | false =>
   cases B3 with
   | true =>
     refine wN (fn:=AP.f173) (h2:=h.eV) (e:=[(2,.bool false)]) rfl rfl rfl ?_ rfl (by rw[Bool.not_true,ac7,ac7];rfl)
     simp (disch:=omega)only[go_sem,yH,AP.f173,e2,e3]
   | false =>
     have ea:Fq s=Cm s s.size 0:=by rw[HD];simp [Fq]
     rw[ea]
     rcases O4 s (by omega) h.eV s.size 0 (by omega)with ⟨e',r1,r2⟩|⟨e',r1,r2,r3⟩
     · have r1':Lp AP.A [0,3] AP.f173L0 [(0,.str s),(3,.int .i64 0)] h.eV=some (.exit 0,e',h.eV):=r1
       clear r1
       rw[r2]
       refine wN (fn:=AP.f173) (h2:=h.eV) (e:=[(2,.bool true)]) rfl rfl rfl ?_ rfl rfl
       simp (disch:=omega)only[go_sem,yH,AP.f173,e2,e3,u9,r1']
     · have r1':Lp AP.A [0,3] AP.f173L0 [(0,.str s),(3,.int .i64 0)] h.eV=some (.ret,e',h.eV):=r1
       clear r1
       rw[r3]
       refine wN (fn:=AP.f173) (h2:=h.eV) (e:=e') (vs:=[.bool false]) rfl rfl rfl ?_ (by simp only[AP.f173,dh,pB,r2];rfl) rfl
       simp (disch:=omega)only[go_sem,yH,AP.f173,e2,e3,u9,r1']
def CR (s:ByteArray) (i j:Nat):Nat→Nat→Nat
 |0,k=>k
 |f+1,k=>if k<258∧i+k<s.size∧AX s (i+k)=AX s (j+k)then CR s i j f (k+1)else k
theorem J9 (s : ByteArray) (i j : Nat) (hs : s.size < 100000) (hj : j ≤ i) (hi : i ≤ s.size) (h : H) : ∀ (f k : Nat), k + f = 258 →
 ∃e',Lp AP.A [0,1,2,7] AP.f26L0 [(0,.str s),(1,.int .i64 i),(2,.int .i64 j),(7,.int .i64 k)] h=some (.exit 0,e',h)∧look e' 7=.int .i64 (CR s i j f k:Nat)
 | 0, k, hk => by
   refine⟨[(0,.str s),(1,.int .i64 i),(2,.int .i64 j),(7,.int .i64 k),(30,.bool false)],vW ?_,rfl⟩
   simp (disch:=omega)only[go_sem,yH,AP.f26L0]
 | f + 1, k, hk => by
   have n1:((k:Int)+1)=((k+1:Nat):Int):=by omega
   by_cases c1:i+k<s.size
   · by_cases c2:AX s (i+k)=AX s (j+k)
     · obtain⟨e',r1,r2⟩:=J9 s i j hs hj hi h f (k+1) (by omega)
       refine⟨e',vX ?_ r1, ?_⟩
       · rw[←n1]
         simp (disch:=omega)only[go_sem,yH,AP.f26L0]
       · rw[r2,CR,if_pos ⟨by omega,c1,c2⟩]
     · refine⟨[(0,.str s),(1,.int .i64 i),(2,.int .i64 j),(7,.int .i64 k),(30,.bool false)],vW ?_, ?_⟩
       · simp (disch:=omega)only[go_sem,yH,AP.f26L0]
       · rw[CR,if_neg (fun q=>c2 q.2.2)];rfl
   · refine⟨[(0,.str s),(1,.int .i64 i),(2,.int .i64 j),(7,.int .i64 k),(30,.bool false)],vW ?_, ?_⟩
     · simp (disch:=omega)only[go_sem,yH,AP.f26L0]
     · rw[CR,if_neg (fun q=>c1 q.2.1)];rfl
def same (s:ByteArray) (i j:Nat):Nat:=CR s i j 258 0
theorem Yy (h:H) (s:ByteArray) (i j:Nat) (hs:s.size<100000) (hj:j≤i) (hi:i≤s.size):aV AP.A 26 [.str s,.int .i64 i,.int .i64 j] h=some (.int .i64 (same s i j:Nat),h):=by
 obtain⟨e',r1,r2⟩:=J9 s i j hs hj hi h.eV 258 0 rfl
 have r1':Lp AP.A [0,1,2,7] AP.f26L0 [(0,.str s),(1,.int .i64 i),(2,.int .i64 j),(7,.int .i64 0)] h.eV=some (.exit 0,e',h.eV):=r1
 clear r1
 refine wN (fn:=AP.f26) (h2:=h.eV) (e:=[(6,.int .i64 (same s i j:Nat))]) rfl rfl rfl ?_ rfl rfl
 simp (disch:=omega)only[go_sem,yH,AP.f26,u9,r1',r2,same]
def AN (s:ByteArray) (i:Nat):Nat→Nat×Nat→Nat×Nat
 |0,b=>b
 |j+1,b=>AN s i j (if b.1<same s i j then(same s i j,i-j)else b)
theorem MP (s:ByteArray) (i j:Nat):∀f k,CR s i j f k≤k+f
 |0,k=>by simp [CR]
 | f + 1, k => by
   unfold CR
   split
   · have:=MP s i j f (k+1);omega
   · omega
theorem Pe (s:ByteArray) (i j:Nat):same s i j≤258:=by have:=MP s i j 258 0;unfold same;omega
theorem IP (s:ByteArray) (i j:Nat) (hi:i≤s.size):∀f k,i+k≤s.size→i+CR s i j f k≤s.size
 |0,k,h=>by simpa [CR]using h
 | f + 1, k, h => by
   unfold CR
   split
   · rename_i q;exact IP s i j hi f (k+1) (by omega)
   · exact h
theorem Kg (s:ByteArray) (i j:Nat) (hi:i≤s.size):i+same s i j≤s.size:=IP s i j hi 258 0 (by omega)
theorem EU (s:ByteArray) (i:Nat) (hi:i≤s.size):∀(j:Nat) (b:Nat×Nat),i+b.1≤s.size→i+(AN s i j b).1≤s.size
 |0,b,h=>h
 | j + 1, b, h => by
   unfold AN
   refine EU s i hi j _ ?_
   split
   · exact Kg s i j hi
   · exact h
theorem Gx (s:ByteArray) (i:Nat) (hs:s.size<100000) (hi:i<s.size) (v4:AV) (h:H):∀(n:Nat) (b:Nat×Nat) (j:Int),n≤i→j=(n:Int)-1→
 ∃ e', Lp AP.A [0, 4, 5, 6, 7, 8] AP.f12L0 [(0, .str s), (4, v4), (5, .int .i64 i), (6, .int .i64 b.1), (7, .int .i64 b.2), (8, .int .i64 j)] h = some (.exit 2, e', h) ∧
   look e' 0=.str s∧look e' 4=v4∧look e' 5=.int .i64 i∧look e' 6=.int .i64 (AN s i n b).1∧look e' 7=.int .i64 (AN s i n b).2
 | 0, b, j, hn, hj => by
   refine⟨[(0,.str s),(4,v4),(5,.int .i64 i),(6,.int .i64 b.1),(7,.int .i64 b.2),(8,.int .i64 j),(20,.bool false)],vW ?_,rfl,rfl,rfl,rfl,rfl⟩
   simp (disch:=omega)only[go_sem,yH,AP.f12L0]
 | n + 1, b, j, hn, hj => by
   obtain rfl:j=(n:Int):=by omega
   have k1:=Yy h s i n hs (by omega) (by omega)
   have k2:=Pe s i n
   have n1:(i:Int)-(n:Int)=((i-n:Nat):Int):=by omega
   by_cases c:b.1<same s i n
   · obtain⟨e',r1,r2,r3,r4,r5,r6⟩:=Gx s i hs hi v4 h n (same s i n,i-n) ((n:Int)-1) (by omega) rfl
     refine⟨e',vX ?_ r1,r2,r3,r4, ?_, ?_⟩
     · simp (disch:=omega)only[go_sem,yH,AP.f12L0,k1,n1]
     · rw[r5,AN,if_pos c]
     · rw[r6,AN,if_pos c]
   · obtain⟨e',r1,r2,r3,r4,r5,r6⟩:=Gx s i hs hi v4 h n b ((n:Int)-1) (by omega) rfl
     refine⟨e',vX ?_ r1,r2,r3,r4, ?_, ?_⟩
     · simp (disch:=omega)only[go_sem,yH,AP.f12L0,k1,n1]
     · rw[r5,AN,if_neg c]
     · rw[r6,AN,if_neg c]
structure Tok where
 lit:Int
 len:Int
 zm:Int
deriving DecidableEq
def Ul (t:Tok):List Int:=[t.lit,t.len,t.zm]
def Ob (t:Tok):List AV:=ints (Ul t)
def U3 (ts:List Tok):List Int:=ts.flatMap Ul
def zS (ts:List Tok):List AV:=ts.flatMap Ob
theorem I9 (t:Tok):(Ob t).length=3:=rfl
theorem Qx (ts:List Tok):(zS ts).length=ts.length* 3:=E3 I9 ts
theorem Fk:∀ts:List Tok,zS ts=ints (U3 ts)
 |[]=>rfl
 | t :: ts => by
   have:=Fk ts
   unfold zS U3 at *
   rw[acT,acT,rX,this];rfl
theorem Oc (ts:List Tok) (t:Tok):zS (ts++[t])=zS ts++Ob t:=by simp [zS]
def Ay (s:ByteArray) (i:Nat):Tok×Nat:=
 if(AN s i i (0,0)).1<3 then(⟨AX s i,0,0⟩,i+1)else(⟨0,(AN s i i (0,0)).1,(AN s i i (0,0)).2⟩,i+(AN s i i (0,0)).1)
def Fj (s:ByteArray):Nat→Nat→List Tok
 |0,_=>[]
 |f+1,i=>if i<s.size then(Ay s i).1::Fj s f (Ay s i).2 else []
theorem Nd (s:ByteArray) (i:Nat):i<(Ay s i).2:=by
 unfold Ay;split<;>simp<;>omega
theorem Nc (s:ByteArray) (i:Nat) (hi:i<s.size):(Ay s i).2≤s.size:=by
 unfold Ay;split
 · exact hi
 · exact EU s i (by omega) i (0,0) (by show i+0≤_;omega)
theorem Nf (s:ByteArray) (i:Nat) (hi:s.size≤i) (h:H) (ov:AV):∃e',Lp AP.A [0,4,5] AP.f12L1 [(0,.str s),(4,ov),(5,.int .i64 i)] h=some (.exit 0,e',h)∧look e' 4=ov:=by
 refine⟨[(0,.str s),(4,ov),(5,.int .i64 i),(16,.bool false)],vW ?_,rfl⟩
 simp (disch:=omega)only[go_sem,yH,AP.f12L1]
theorem SD (s : ByteArray) (hs : s.size < 100000) : ∀ (f i : Nat) (h : H) (ov : AV) (ts : List Tok), s.size - i ≤ f → i ≤ s.size → ts.length ≤ i → yS 3 h ov ts.length (zS ts) → h.floor ≤ h.next →
 ∃e' h' ov',Lp AP.A [0,4,5] AP.f12L1 [(0,.str s),(4,ov),(5,.int .i64 i)] h=some (.exit 0,e',h')∧look e' 4=ov'∧yS 3 h' ov' (ts++Fj s f i).length (zS (ts++Fj s f i))∧h'.floor=h.floor∧h.next≤h'.next:=by
 intro f
 induction f with
 | zero =>
   intro i h ov ts hf hi hts o hfn
   obtain⟨e',r1,r2⟩:=Nf s i (by omega) h ov
   exact⟨e',h,ov,r1,r2,by simpa [Fj]using o,rfl,xQ _⟩
 | succ f ih =>
   intro i h ov ts hf hi hts o hfn
   by_cases c0:i<s.size
   · obtain⟨e1,q1,q2,q3,q4,q5,q6⟩:=Gx s i hs c0 ov h i (0,0) ((i:Int)-1) (by omega) rfl
     have q1':Lp AP.A [0,4,5,6,7,8] AP.f12L0 [(0,.str s),(4,ov),(5,.int .i64 i),(6,.int .i64 0),(7,.int .i64 0),(8,.int .i64 ((i:Int)-1))] h=some (.exit 2,e1,h):=q1
     clear q1
     have hb:=CJ s i
     have hr:=EU s i (by omega) i (0,0) (by show i+0≤_;omega)
     have lt:=Nd s i
     have le:=Nc s i c0
     obtain⟨t,i',et⟩:∃t i',Ay s i=(t,i'):=⟨_,_,rfl⟩
     have et0:=et
     rw[et]at lt le
     simp only at lt le
     obtain⟨v',h',p1,p2,p3,p4,p5,p6⟩:=o.push hfn (z:=24) (m:=1) (by omega) (by omega) (Ob t) rfl rfl (by simp [roomy];omega)
     have step:aP (aV AP.A) bL AP.f12L1 (aC [(0,.str s),(4,ov),(5,.int .i64 i)] [0,4,5]) h=some (.normal,[(0,.str s),(4,v'),(5,.int .i64 i')],h'):=by
      unfold Ay at et
      by_cases c1:(AN s i i (0,0)).1<3
      · rw[if_pos c1]at et
        obtain⟨rfl,rfl⟩:=xH et
        simp only[Ob,Ul,ints,acW,adr,I]at p1
        have n1:((i+1:Nat):Int)=(i:Int)+1:=by omega
        simp (disch:=omega)only[go_sem,yH,AP.f12L1,u9,q1',q2,q3,q4,q5,q6,p1,n1]
      · rw[if_neg c1]at et
        obtain⟨rfl,rfl⟩:=xH et
        simp only[Ob,Ul,ints,acW,adr,I]at p1
        have n1:((i+(AN s i i (0,0)).1:Nat):Int)=(i:Int)+((AN s i i (0,0)).1:Nat):=by omega
        simp (disch:=omega)only[go_sem,yH,AP.f12L1,u9,q1',q2,q3,q4,q5,q6,p1,n1]
     have o2:yS 3 h' v' (ts++[t]).length (zS (ts++[t])):=by rw[Oc,yy];exact p2
     obtain⟨e',h2,ov',r1,r2,r3,r4,r5⟩:=ih i' h' v' (ts++[t]) (by omega) le (by simp;omega) o2 (by omega)
     refine⟨e',h2,ov',vX step r1,r2, ?_,by omega,by omega⟩
     rw[Fj,if_pos c0,et0]
     simpa using r3
   · obtain⟨e',r1,r2⟩:=Nf s i (by omega) h ov
     exact⟨e',h,ov,r1,r2,by simpa [Fj,c0]using o,rfl,xQ _⟩
def Km (ts:List Tok):AV:=CD 3 ts.length (zS ts)
def tokens (s:ByteArray):List Tok:=Fj s s.size 0
theorem SE (h:H) (s:ByteArray) (hs:s.size<1125899906842624):aV AP.A 12 [.str s] h=some (if 300<s.size then .cf [.aT,.int .i64 500]else .cf [Km (tokens s),.int .i64 0],h):=by
 by_cases c:300<s.size
 · rw[if_pos c]
   refine wN (fn:=AP.f12) (h2:=h.eV) (e:=[(2,.aT),(3,.int .i64 500)]) rfl rfl rfl ?_ rfl rfl
   simp (disch:=omega)only[go_sem,yH,AP.f12]
 · rw[if_neg c]
   obtain⟨e',h',ov',r1,r2,r3,r4,r5⟩:=SD s (by omega) s.size 0 h.eV .aT [] (by omega) (by omega) (by simp) yS.nil (by simp)
   have r1':Lp AP.A [0,4,5] AP.f12L1 [(0,.str s),(4,.aT),(5,.int .i64 0)] h.eV=some (.exit 0,e',h'):=r1
   clear r1
   rw[adt]at r3
   refine wN (fn:=AP.f12) (h2:=h') (e:=[(2,ov'),(3,.int .i64 0)]) (vs:=[ov',.int .i64 0]) rfl rfl rfl ?_ rfl ?_
   · simp (disch:=omega)only[go_sem,yH,AP.f12,u9,r1',r2]
   · have o':=r3
     rw[Fk]at o'
     have s1:=o'.Ap (fl:=h.next) (m:=13) (t:=true) (by rw[r4];simp)
     show(gV (snap h'.get h.next 15 true) [ov',.int .i64 0]).bind _=_
     simp only[gV,s1,xM]
     rw[←Fk];rfl
def Ext (h g:H):Prop:=∀id c,h.get id=some c→g.get id=some c
theorem Ext.refl (h:H):Ext h h:=fun _ _ q=>q
theorem Ext.trans {a b c:H} (x:Ext a b) (y:Ext b c):Ext a c:=fun i d q=>y i d (x i d q)
theorem Ext.alloc {a h:H} (x:Ext a h) (cs:List AV):Ext a (h.alloc cs):=fun i d q=>by
 have:=h.lt _ _ (x i d q)
 rw[H.bc,if_neg (by omega)];exact x i d q
theorem Ext.set {a h:H} (x:Ext a h) {id:Nat} (hid:a.next≤id) (cs:List AV):Ext a (h.set id cs):=fun i d q=>by
 have:=a.lt _ _ q
 rw[H.ee,if_neg (by omega)];exact x i d q
theorem zZ.Qw {h:H} {v:AV} {ts:List Tok} (r:zZ 3 h v ts.length (zS ts)):∃ad:Int→Nat→AV,
 (∀i:Int,0≤i∧i<ts.length→ik 3 v (.int .i64 i)=some (ad i 0))∧
 (∀(i:Int) (f g:Nat),0≤i∧i<ts.length→gH g (ad i f)=some (ad i (f+g)))∧
 ∀ g : H, Ext h g → ∀ (i : Nat) (t : Tok), ts[i]? = some t → cq false 1 (ad i 0) g = some (.int .i64 t.lit) ∧ cq false 1 (ad i 1) g = some (.int .i64 t.len) ∧ cq false 1 (ad i 2) g = some (.int .i64 t.zm) ∧
   cq true 3 (ad i 0) g=some (.agg [.int .i64 t.lit,.int .i64 t.len,.int .i64 t.zm]):=by
 obtain⟨ad,a1,a2,_,a3⟩:=r.at_
 refine⟨ad,a1,a2,fun g hg i t ht=> ?_⟩
 obtain⟨b1,b2⟩:=a3 g hg
 have hi:i<ts.length:=(xL.1 ht).1
 have hI:(0:Int)≤(i:Int)∧(i:Int)<ts.length:=⟨by omega,by omega⟩
 have ti:((i:Int)).toNat=i:=by omega
 have q:∀f,f<3→(zS ts)[((i:Int)).toNat* 3+f]?=(Ob t)[f]?:=fun f hf=>by rw[ti];exact GD I9 ht hf
 refine⟨b1 i 0 _ hI (q 0 (by omega)),b1 i 1 _ hI (q 1 (by omega)),b1 i 2 _ hI (q 2 (by omega)), ?_⟩
 rw[b2 i hI,ti,zS,Hv I9 ht];rfl
def AG (size:Int) (t:Tok):Option Int:=
 if t.len=0 then(if t.lit<0∨255<t.lit∨t.zm≠0 then none else some (size+1))
 else if t.len<3∨258<t.len∨t.zm<1∨32768<t.zm∨size<t.zm∨t.lit≠0 then none else some (size+t.len)
def zh : Int → List Tok → Bool
 |_,[]=>true
 | s, t :: r => match AG s t with
   |none=>false
   |some s'=>if 8192<s' then false else zh s' r
theorem Sz {v a0:AV} {n i:Nat} {s:Int} {t:Tok} {h h1:H} (hi:i<n) (hfl:h.floor≤h.next) (ln:jZ false v=some (.int .i64 n)) (b1:ik 3 v (.int .i64 i)=some a0) (b2:cq true 3 a0 h=some (.agg [.int .i64 t.lit,.int .i64 t.len,.int .i64 t.zm]))
 (eh1:h1=(h.alloc [.int .i64 0,.int .i64 0,.int .i64 0]).set h.next [.int .i64 t.lit,.int .i64 t.len,.int .i64 t.zm]) (g1:h1.get h.next=some [.int .i64 t.lit,.int .i64 t.len,.int .i64 t.zm]) (hb:AG s t=none):
 aP (aV AP.A) bL AP.f69L0 (aC [(0,v),(3,.int .i64 s),(4,.int .i64 i)] [0,3,4]) h=some (.ret,[(2,.bool false)],h1):=by
 unfold AG at hb
 by_cases c0:t.len=0
 · rw[if_pos c0]at hb
   have hb':t.lit<0∨255<t.lit∨t.zm≠0:=by
    by_cases c:t.lit<0∨255<t.lit∨t.zm≠0
    · exact c
    · rw[if_neg c]at hb;cases hb
   by_cases d1:t.lit<0
   · clear hb' hb;simp (disch:=omega)only[go_sem,yH,AP.f69L0,ln,b1,b2,←eh1,g1]
   by_cases d2:255<t.lit
   · clear hb' hb;simp (disch:=omega)only[go_sem,yH,AP.f69L0,ln,b1,b2,←eh1,g1]
   have d3:¬t.zm=0:=by omega
   clear hb' hb
   simp (disch:=omega)only[go_sem,yH,AP.f69L0,ln,b1,b2,←eh1,g1]
 · rw[if_neg c0]at hb
   have hb':t.len<3∨258<t.len∨t.zm<1∨32768<t.zm∨s<t.zm∨t.lit≠0:=by
    by_cases c:t.len<3∨258<t.len∨t.zm<1∨32768<t.zm∨s<t.zm∨t.lit≠0
    · exact c
    · rw[if_neg c]at hb;cases hb
   by_cases d1:t.len<3
   · clear hb' hb;simp (disch:=omega)only[go_sem,yH,AP.f69L0,ln,b1,b2,←eh1,g1]
   by_cases d2:258<t.len
   · clear hb' hb;simp (disch:=omega)only[go_sem,yH,AP.f69L0,ln,b1,b2,←eh1,g1]
   by_cases d3:t.zm<1
   · clear hb' hb;simp (disch:=omega)only[go_sem,yH,AP.f69L0,ln,b1,b2,←eh1,g1]
   by_cases d4:32768<t.zm
   · clear hb' hb;simp (disch:=omega)only[go_sem,yH,AP.f69L0,ln,b1,b2,←eh1,g1]
   by_cases d5:s<t.zm
   · clear hb' hb;simp (disch:=omega)only[go_sem,yH,AP.f69L0,ln,b1,b2,←eh1,g1]
   have d6:¬t.lit=0:=by omega
   clear hb' hb
   simp (disch:=omega)only[go_sem,yH,AP.f69L0,ln,b1,b2,←eh1,g1]
theorem Qv {v a0:AV} {n i:Nat} {s s':Int} {t:Tok} {h h1:H} (hi:i<n) (hn:n<1000000000) (hs:0≤s∧s≤8192) (hfl:h.floor≤h.next) (ln:jZ false v=some (.int .i64 n)) (b1:ik 3 v (.int .i64 i)=some a0) (b2:cq true 3 a0 h=some (.agg [.int .i64 t.lit,.int .i64 t.len,.int .i64 t.zm]))
 (eh1:h1=(h.alloc [.int .i64 0,.int .i64 0,.int .i64 0]).set h.next [.int .i64 t.lit,.int .i64 t.len,.int .i64 t.zm]) (g1:h1.get h.next=some [.int .i64 t.lit,.int .i64 t.len,.int .i64 t.zm]) (hst:AG s t=some s'):
 aP (aV AP.A) bL AP.f69L0 (aC [(0,v),(3,.int .i64 s),(4,.int .i64 i)] [0,3,4]) h=if 8192<s' then some (.ret,[(2,.bool false)],h1)else some (.normal,[(0,v),(3,.int .i64 s'),(4,.int .i64 ((i:Int)+1))],h1):=by
 unfold AG at hst
 by_cases c0:t.len=0
 · rw[if_pos c0]at hst
   by_cases c:t.lit<0∨255<t.lit∨t.zm≠0
   · rw[if_pos c]at hst;cases hst
   rw[if_neg c]at hst
   obtain rfl:=xF hst
   have k1:¬t.lit<0:=by omega
   have k2:¬255<t.lit:=by omega
   have k3:t.zm=0:=by omega
   clear c
   by_cases k:8192<s+1
   · rw[if_pos k]
     simp (disch:=omega)only[go_sem,yH,AP.f69L0,ln,b1,b2,←eh1,g1]
   · rw[if_neg k]
     simp (disch:=omega)only[go_sem,yH,AP.f69L0,ln,b1,b2,←eh1,g1]
 · rw[if_neg c0]at hst
   by_cases c:t.len<3∨258<t.len∨t.zm<1∨32768<t.zm∨s<t.zm∨t.lit≠0
   · rw[if_pos c]at hst;cases hst
   rw[if_neg c]at hst
   obtain rfl:=xF hst
   have k1:¬t.len<3:=by omega
   have k2:¬258<t.len:=by omega
   have k3:¬t.zm<1:=by omega
   have k4:¬32768<t.zm:=by omega
   have k5:¬s<t.zm:=by omega
   have k6:t.lit=0:=by omega
   clear c
   by_cases k:8192<s+t.len
   · rw[if_pos k]
     simp (disch:=omega)only[go_sem,yH,AP.f69L0,ln,b1,b2,←eh1,g1]
   · rw[if_neg k]
     simp (disch:=omega)only[go_sem,yH,AP.f69L0,ln,b1,b2,←eh1,g1]
theorem Kk {v : AV} {ts : List Tok} (hn : ts.length < 1000000000) (h0 : H) (rd : zZ 3 h0 v ts.length (zS ts)) : ∀ (q p : List Tok) (s : Int) (h : H), ts = p ++ q → 0 ≤ s ∧ s ≤ 8192 → Ext h0 h → h0.next ≤ h.next → h.floor ≤ h.next →
 (∃e' h',Lp AP.A [0,3,4] AP.f69L0 [(0,v),(3,.int .i64 s),(4,.int .i64 p.length)] h=some (.exit 0,e',h')∧zh s q=true)∨
 (∃e' h',Lp AP.A [0,3,4] AP.f69L0 [(0,v),(3,.int .i64 s),(4,.int .i64 p.length)] h=some (.ret,e',h')∧look e' 2=.bool false∧zh s q=false)
 | [], p, s, h, hp, hs, hx, hnx, hfl => by
   left
   have ln:=rd.len
   rw[acU]at hp;subst hp
   refine⟨[(0,v),(3,.int .i64 s),(4,.int .i64 ts.length),(9,.bool false)],h,vW ?_,rfl⟩
   simp (disch:=omega)only[go_sem,yH,AP.f69L0,ln]
 | t :: q, p, s, h, hp, hs, hx, hnx, hfl => by
   have ln:=rd.len
   have hlen:ts.length=p.length+(q.length+1):=by rw[hp];simp
   have ht:ts[p.length]?=some t:=by rw[hp];simp
   obtain⟨ad,a1,a2,a3⟩:=rd.Qw
   have hI:(0:Int)≤(p.length:Int)∧(p.length:Int)<ts.length:=⟨by omega,by omega⟩
   have b1:=a1 _ hI
   obtain⟨_,_,_,b2⟩:=a3 h hx _ _ ht
   obtain⟨h1,eh1⟩:∃g,g=(h.alloc [.int .i64 0,.int .i64 0,.int .i64 0]).set h.next [.int .i64 t.lit,.int .i64 t.len,.int .i64 t.zm]:=⟨_,rfl⟩
   have w1:((p.length:Int)+1)=(((p++[t]).length:Nat):Int):=by simp
   have b2':=b2
   have gA:(h.alloc [.int .i64 0,.int .i64 0,.int .i64 0]).get h.next=some [.int .i64 0,.int .i64 0,.int .i64 0]:=yG rfl
   have ldA:cq true 3 (ad p.length 0) (h.alloc [.int .i64 0,.int .i64 0,.int .i64 0])=some (.agg [.int .i64 t.lit,.int .i64 t.len,.int .i64 t.zm]):=(a3 _ (hx.alloc _) _ _ ht).2.2.2
   have g1:h1.get h.next=some [.int .i64 t.lit,.int .i64 t.len,.int .i64 t.zm]:=by rw[eh1,yM rfl,gA];rfl
   have hx1:Ext h0 h1:=by rw[eh1];exact(hx.alloc _).set hnx _
   have hn1:h0.next≤h1.next:=by rw[eh1];simp;omega
   have hf1:h1.floor≤h1.next:=by rw[eh1];simp;omega
   cases hst:AG s t with
   | none =>
     right
     exact⟨_,h1,wD (Sz (by omega) hfl ln b1 b2 eh1 g1 hst),rfl,by simp [zh,hst]⟩
   | some s' =>
     have good:=Qv (by omega) hn hs hfl ln b1 b2 eh1 g1 hst
     have hs':0≤s':=by
      unfold AG at hst
      clear good
      by_cases c0:t.len=0
      · rw[if_pos c0]at hst
        split at hst
        · cases hst
        · obtain rfl:=xF hst;omega
      · rw[if_neg c0]at hst
        split at hst
        · cases hst
        · obtain rfl:=xF hst;omega
     by_cases k:8192<s'
     · right
       rw[if_pos k]at good
       exact⟨_,h1,wD good,rfl,by simp [zh,hst,k]⟩
     · rw[if_neg k]at good
       have e:zh s (t::q)=zh s' q:=by simp [zh,hst,k]
       rw[e]
       rw[w1]at good
       rcases Kk hn h0 rd q (p++[t]) s' h1 (by rw[hp];simp) ⟨hs',by omega⟩ hx1 hn1 hf1 with ⟨e',h',r1,r2⟩|⟨e',h',r1,r2,r3⟩
       · exact .inl ⟨e',h',vX good r1,r2⟩
       · exact .inr ⟨e',h',vX good r1,r2,r3⟩
def zU (n:Int):Bool:=decide (0≤n)&&decide (n≤1048576)
theorem Ou (h:H) (n:Int):aV AP.A 119 [.int .i64 n] h=some (.bool (zU n),h):=by
 refine wN (fn:=AP.f119) (h2:=h.eV) (e:=[(2,.bool (zU n))]) rfl rfl rfl ?_ rfl rfl
 unfold zU
 by_cases c1:0≤n<;>by_cases c2:n≤1048576<;>simp (disch:=omega)only[go_sem,yH,AP.f119]
def Gj (n:Int):Bool:=decide (0≤n)&&decide (n<4)
theorem Yr (h:H) (n:Int):aV AP.A 120 [.int .i64 n] h=some (.bool (Gj n),h):=by
 refine wN (fn:=AP.f120) (h2:=h.eV) (e:=[(2,.bool (Gj n))]) rfl rfl rfl ?_ rfl rfl
 unfold Gj
 by_cases c1:0≤n<;>by_cases c2:n<4<;>simp (disch:=omega)only[go_sem,yH,AP.f120]
def Pp (v:AV):Bool:=match v with| .int .i64 n=> !zU n|_=>false
theorem Qz (h:H) (n:Int):aV AP.A 123 [.int .i64 n] h=some (.bool (!zU n),h):=by
 have k1:=Ou h.eV n
 refine wN (fn:=AP.f123) (h2:=h.eV) (e:=[(2,.bool (!zU n))]) rfl rfl rfl ?_ rfl rfl
 simp (disch:=omega)only[go_sem,yH,AP.f123,k1]
def Ek (l:List Int):Bool:=decide (l.length=4)&&l.all zU
theorem GU:∀l:List Int,(ints l).any Pp= !l.all zU
 |[]=>rfl
 | n :: l => by
   have:=GU l
   simp only[ints,acW,List.any_cons,List.all_cons,Bool.not_and]at *
   rw[this];rfl
theorem abE (h:H) (v:AV) (l:List Int) (rd:Rd h v (ints l)) (hl:l.length<1125899906842624):aV AP.A 117 [v] h=some (.bool (Ek l),h):=by
 have rd':=rd.mono (yQ h)
 have ln:=rd'.len
 rw[rY]at ln
 simp only[I]at ln
 refine wN (fn:=AP.f117) (h2:=h.eV) (e:=[(2,.bool (Ek l))]) rfl rfl rfl ?_ rfl rfl
 unfold Ek
 by_cases c:l.length=4
 · have k1:=HQ (fv:=.fn 123 [] []) Pp (fun x hx g=>by
    obtain⟨n,hn,rfl⟩:=ac2.1 hx
    rw[pW];exact Qz g n) (by simp;omega) h.eV rd'
   rw[GU]at k1
   have c':(l.length:Int)=4:=by omega
   simp (disch:=omega)only[go_sem,yH,AP.f117,ln,k1,Bool.not_not]
 · have c':¬(l.length:Int)=4:=by omega
   simp (disch:=omega)only[go_sem,yH,AP.f117,ln]
theorem Rd.zL {h:H} {v:AV} {l:List Int} (r:Rd h v (ints l)):∃ad:Int→AV,(∀i:Int,0≤i∧i<l.length→ik 1 v (.int .i64 i)=some (ad i))∧
 ∀g:H,Ext h g→∀(i:Nat) (n:Int),l[i]?=some n→cq false 1 (ad i) g=some (.int .i64 n):=by
 have r2:=r.T8
 rw[rY]at r2
 obtain⟨ad,a1,_,_,a3⟩:=r2.at_
 refine⟨fun i=>ad i 0,a1,fun g hg i n hn=> ?_⟩
 have hi:i<l.length:=(xL.1 hn).1
 refine(a3 g hg).1 i 0 _ ⟨by omega,by omega⟩ ?_
 rw[Cx,ady,adC]
 exact vG hn
theorem Pv {v:AV} {l:List Int} (hl:l.length<1125899906842624) (h:H) (rd:Rd h v (ints l)):∀(q p:List Int),l=p++q→
 (∃e',Lp AP.A [0,3] AP.f172L0 [(0,v),(3,.int .i64 p.length)] h=some (.exit 0,e',h)∧look e' 0=v∧q.all zU=true)∨
 (∃e',Lp AP.A [0,3] AP.f172L0 [(0,v),(3,.int .i64 p.length)] h=some (.ret,e',h)∧look e' 2=.bool false∧q.all zU=false)
 | [], p, hp => by
   left
   have ln:=rd.len
   rw[rY]at ln
   simp only[I]at ln
   rw[acU]at hp;subst hp
   refine⟨[(0,v),(3,.int .i64 l.length),(7,.bool false)],vW ?_,rfl,rfl⟩
   simp (disch:=omega)only[go_sem,yH,AP.f172L0,ln]
 | n :: q, p, hp => by
   have ln:=rd.len
   rw[rY]at ln
   simp only[I]at ln
   have hlen:l.length=p.length+(q.length+1):=by rw[hp];simp
   have hv:l[p.length]?=some n:=by rw[hp];simp
   obtain⟨ad,a1,a2⟩:=rd.zL
   have b1:=a1 p.length ⟨by omega,by omega⟩
   have b2:=a2 h (Ext.refl h) _ _ hv
   have w1:((p.length:Int)+1)=(((p++[n]).length:Nat):Int):=by simp
   have ih:=Pv hl h rd q (p++[n]) (by rw[hp];simp)
   rw[←w1]at ih
   rw[List.all_cons]
   clear a1 a2
   by_cases c1:n<0
   · right
     refine⟨[(2,.bool false)],wD ?_,rfl,by simp [zU];omega⟩
     clear ih w1
     simp (disch:=omega)only[go_sem,yH,AP.f172L0,ln,b1,b2]
   by_cases c2:1048576<n
   · right
     refine⟨[(2,.bool false)],wD ?_,rfl,by simp [zU];omega⟩
     clear ih w1
     simp (disch:=omega)only[go_sem,yH,AP.f172L0,ln,b1,b2]
   have cn:zU n=true:=by simp [zU];omega
   rw[cn,adn]
   have step:aP (aV AP.A) bL AP.f172L0 (aC [(0,v),(3,.int .i64 p.length)] [0,3]) h=some (.normal,[(0,v),(3,.int .i64 ((p.length:Int)+1))],h):=by
    clear ih w1
    simp (disch:=omega)only[go_sem,yH,AP.f172L0,ln,b1,b2]
   rcases ih with ⟨e',r1,r2,r3⟩|⟨e',r1,r2,r3⟩
   · exact .inl ⟨e',vX step r1,r2,r3⟩
   · exact .inr ⟨e',vX step r1,r2,r3⟩
theorem SH (h:H) (v:AV) (l:List Int) (rd:Rd h v (ints l)) (hl:l.length<1125899906842624):aV AP.A 172 [v] h=some (.bool (Ek l),h):=by
 have rd':=rd.mono (yQ h)
 have ln:=rd'.len
 rw[rY]at ln
 simp only[I]at ln
 unfold Ek
 rcases Pv hl h.eV rd' l [] rfl with ⟨e',r1,r2,r3⟩|⟨e',r1,r2,r3⟩
 · have r1':Lp AP.A [0,3] AP.f172L0 [(0,v),(3,.int .i64 0)] h.eV=some (.exit 0,e',h.eV):=r1
   clear r1
   rw[r3,Bool.and_true]
   refine wN (fn:=AP.f172) (h2:=h.eV) (e:=[(2,.bool (decide (l.length=4)))]) rfl rfl rfl ?_ rfl rfl
   by_cases c:l.length=4
   · have c':(l.length:Int)=4:=by omega
     simp (disch:=omega)only[go_sem,yH,AP.f172,ln,u9,r1',r2]
   · have c':¬(l.length:Int)=4:=by omega
     simp (disch:=omega)only[go_sem,yH,AP.f172,ln,u9,r1',r2]
 · have r1':Lp AP.A [0,3] AP.f172L0 [(0,v),(3,.int .i64 0)] h.eV=some (.ret,e',h.eV):=r1
   clear r1
   rw[r3,ac7]
   refine wN (fn:=AP.f172) (h2:=h.eV) (e:=e') (vs:=[.bool false]) rfl rfl rfl ?_ (by simp only[AP.f172,dh,pB,r2];rfl) rfl
   simp (disch:=omega)only[go_sem,yH,AP.f172,ln,u9,r1',r2]
structure zu where
 name:ByteArray
 gone:Bool
 vec:List Int
 y0:Int
 node:Int
 method:Int
 packed:ByteArray
 size:Int
 DZ:Int
def yO (e:zu) (v:AV):List AV:=[.str e.name,.bool e.gone,v,.int .i64 e.y0,.int .i64 e.node,.int .i64 e.method,.str e.packed,.int .i64 e.size,.int .i64 e.DZ]
def zD (e:zu):Bool:=Ek e.vec&&(decide (1≤e.y0)&&(zU e.y0&&Gj e.node))
structure PE (h:H) (p:AV) (cs:List AV):Prop where
 nil:∀g:H,kJ g p=some (p,g)
 wc:∃q:Nat→AV,(∀k,gH k p=some (q k))∧∀g:H,Ext h g→∀(k:Nat) (c:AV),cs[k]?=some c→cq false 1 (q k) g=some c
theorem RG (h:H) (p v:AV) (e:zu) (pe:PE h p (yO e v)) (rd:Rd h v (ints e.vec)) (hl:e.vec.length<1125899906842624):aV AP.A 112 [p] h=some (.bool (zD e),h):=by
 have nl:=pe.nil
 obtain⟨q,f1,f2⟩:=pe.wc
 have l2:=f2 h (Ext.refl h) 2 v rfl
 have l3:=f2 h (Ext.refl h) 3 _ rfl
 have l4:=f2 h (Ext.refl h) 4 _ rfl
 have k1:=abE h v e.vec rd hl
 have k2:=Ou h e.y0
 have k3:=Yr h e.node
 have c2:zU e.y0=true→1≤e.y0→True:=fun _ _=>trivial
 refine wo (fn:=AP.f112) (h2:=h) (e:=[(2,.bool (zD e))]) (vs:=[.bool (zD e)]) rfl rfl rfl ?_ rfl
 unfold zD
 clear pe f2 rd c2
 generalize Ek e.vec=B1 at *
 generalize zU e.y0=B2 at *
 generalize Gj e.node=B3 at *
 by_cases c1:1≤e.y0<;>cases B1<;>cases B2<;>cases B3<;>simp (disch:=omega)only[go_sem,yH,AP.f112,nl,f1,l2,l3,l4,k1,k2,k3]
theorem TJ (h : H) (v : AV) (e : zu) (rd : Rd h v (ints e.vec)) (hv : v.sc = true) (hl : e.vec.length < 1125899906842624) : aV AP.A 169 [.agg (yO e v)] h = some (.bool (zD e), h) := by
 have hx:Ext h.eV (h.eV.alloc (yO e v)):=(Ext.refl _).alloc _
 have k1:=SH (h.eV.alloc (yO e v)) v e.vec (rd.mono fun id c q=>hx id c q) hl
 have g1:(h.eV.alloc (yO e v)).get h.next=some (yO e v):=yG rfl
 have hn:h.eV.next=h.next:=rfl
 refine wN (fn:=AP.f169) (h2:=h.eV.alloc (yO e v)) (e:=[(2,.bool (zD e))]) rfl rfl rfl ?_ rfl rfl
 have hb:∀ev:Env,look ev 0=.agg (yO e v)→bh ev (.box 9 (.t 0))=some (yO e v,fun i=>.aH i 0):=by
  intro ev q
  simp only[bh,vg,q,mY]
  rw[if_pos ⟨rfl,by simp [yO,hv]⟩]
 obtain⟨h1,eh1⟩:∃g,g=h.eV.alloc (yO e v):=⟨_,rfl⟩
 rw[←eh1]at k1 g1 ⊢
 have hcnt:zD e=(Ek e.vec&&(decide (1≤e.y0)&&(decide (e.y0≤1048576)&&(decide (0≤e.node)&&decide (e.node<4))))):=by
  unfold zD zU Gj
  by_cases c1:1≤e.y0
  · rw[acO (show 0≤e.y0 by omega)];simp
  · simp [c1]
 rw[hcnt]
 clear hcnt rd hx
 generalize Ek e.vec=B1 at *
 simp only[px,py,AP.f169]
 rw[uT,uS,vO,jS,hb _ rfl]
 simp only[oG,hn,←eh1]
 simp only[yO]at g1
 cases B1 with
 |false=>simp (disch:=omega)only[go_sem,yH,k1,g1]
 | true =>
   by_cases c1:1≤e.y0
   · by_cases c2:e.y0≤1048576
     · by_cases c3:0≤e.node
       · by_cases c4:e.node<4<;>simp (disch:=omega)only[go_sem,yH,k1,g1]
       · simp (disch:=omega)only[go_sem,yH,k1,g1]
     · simp (disch:=omega)only[go_sem,yH,k1,g1]
   · simp (disch:=omega)only[go_sem,yH,k1,g1]
def Ij (s:ByteArray):Bool:=s.data.toList==(⟨#[]⟩:ByteArray).data.toList
def AO (e:zu):Bool:=
 if e.gone then decide (e.method=0)&&(Ij e.packed&&(decide (e.size=0)&&decide (e.DZ=0)))
 else(decide (0≤e.size)&&(decide (e.size≤300)&&Hx e.DZ))&&(decide (e.method=0)&&decide ((e.packed.size:Int)=e.size)||decide (e.method=8)&&decide (e.packed.size≤300))
theorem PO (h : H) (p v : AV) (e : zu) (pe : PE h p (yO e v)) : aV AP.A 122 [p] h = some (.bool (AO e), h) := by
 have nl:=pe.nil
 obtain⟨q,f1,f2⟩:=pe.wc
 have l1:=f2 h (Ext.refl h) 1 _ rfl
 have l5:=f2 h (Ext.refl h) 5 _ rfl
 have l6:=f2 h (Ext.refl h) 6 _ rfl
 have l7:=f2 h (Ext.refl h) 7 _ rfl
 have l8:=f2 h (Ext.refl h) 8 _ rfl
 have k1:=abw h e.DZ
 have e1:bH .eql (.str e.packed) (.str ⟨#[]⟩)=some (.bool (Ij e.packed)):=DN _ _
 refine wo (fn:=AP.f122) (h2:=h) (e:=[(2,.bool (AO e))]) (vs:=[.bool (AO e)]) rfl rfl rfl ?_ rfl
 unfold AO
 clear pe f2
 generalize Ij e.packed=B1 at *
 generalize Hx e.DZ=B2 at *
 cases hg:e.gone with
 | true =>
   rw[hg]at l1
   rw[if_pos rfl]
   by_cases c1:e.method=0
   · cases B1 with
     |false=>simp (disch:=omega)only[go_sem,yH,AP.f122,nl,f1,l1,l5,l6,l7,l8,e1]
     | true =>
       by_cases c2:e.size=0
       · by_cases c3:e.DZ=0<;>simp (disch:=omega)only[go_sem,yH,AP.f122,nl,f1,l1,l5,l6,l7,l8,e1]
       · simp (disch:=omega)only[go_sem,yH,AP.f122,nl,f1,l1,l5,l6,l7,l8,e1]
   · simp (disch:=omega)only[go_sem,yH,AP.f122,nl,f1,l1,l5,l6,l7,l8,e1]
 | false =>
   rw[hg]at l1
   rw[if_neg (by decide)]
   by_cases c1:e.method=0
   · have c1':¬e.method=8:=by omega
     by_cases c2:(e.packed.size:Int)=e.size
     · by_cases c3:0≤e.size
       · by_cases c4:e.size≤300
         · cases B2<;>simp (disch:=omega)only[go_sem,yH,AP.f122,nl,f1,l1,l5,l6,l7,l8,e1,k1]
         · simp (disch:=omega)only[go_sem,yH,AP.f122,nl,f1,l1,l5,l6,l7,l8,e1,k1]
       · exfalso;omega
     · simp (disch:=omega)only[go_sem,yH,AP.f122,nl,f1,l1,l5,l6,l7,l8,e1,k1]
   · by_cases c0:e.method=8
     · by_cases c2:e.packed.size≤300
       · by_cases c3:0≤e.size
         · by_cases c4:e.size≤300
           · cases B2<;>simp (disch:=omega)only[go_sem,yH,AP.f122,nl,f1,l1,l5,l6,l7,l8,e1,k1]
           · simp (disch:=omega)only[go_sem,yH,AP.f122,nl,f1,l1,l5,l6,l7,l8,e1,k1]
         · simp (disch:=omega)only[go_sem,yH,AP.f122,nl,f1,l1,l5,l6,l7,l8,e1,k1]
       · simp (disch:=omega)only[go_sem,yH,AP.f122,nl,f1,l1,l5,l6,l7,l8,e1,k1]
     · simp (disch:=omega)only[go_sem,yH,AP.f122,nl,f1,l1,l5,l6,l7,l8,e1,k1]
def BJ (prev:Option zu) (e:zu):Bool:=Ao e.name&&((match prev with|none=>true|some p=>Op.bytesLess p.name.toList e.name.toList)&&(zD e&&AO e))
theorem KL (e:zu):BJ none e=(Ao e.name&&(zD e&&AO e)):=by simp [BJ]
theorem KM (p e:zu):BJ (some p) e=(Ao e.name&&(Op.bytesLess p.name.toList e.name.toList&&(zD e&&AO e))):=rfl
def BW:Option zu→List zu→Bool
 |_,[]=>true
 |p,e::r=>BJ p e&&BW (some e) r
abbrev zq:=zu×AV
def QF (x:zq):List AV:=yO x.1 x.2
def yR (l:List zq):List AV:=l.flatMap QF
theorem CX (x:zq):(QF x).length=9:=rfl
theorem BK (l:List zq):(yR l).length=l.length* 9:=E3 CX l
structure BU (h:H) (x:zq):Prop where
 vec:Rd h x.2 (ints x.1.vec)
 vl:x.1.vec.length<1125899906842624
 nl:x.1.name.size<1125899906842624
 pl:x.1.packed.size<1125899906842624
theorem BU.mono {h g:H} {x:zq} (o:BU h x) (e:Ext h g):BU g x:=⟨o.vec.mono fun i c q=>e i c q,o.vl,o.nl,o.pl⟩
theorem Pz {v : AV} {l : List zq} (hn : l.length < 1125899906842624) (h : H) (b : Nat) (hb : h.get b = some [v]) (rd : zZ 9 h v l.length (yR l)) (hv : ∀ x ∈ l, BU h x) : ∀ (q p : List zq), l = p ++ q →
 (∃e',Lp AP.A [1,7,8] AP.f113L0 [(1,.aH b 0),(7,.int .i64 l.length),(8,.int .i64 p.length)] h=some (.exit 0,e',h)∧look e' 1=.aH b 0∧BW (p.getLast?.map (·.1)) (q.map (·.1))=true)∨
 (∃e',Lp AP.A [1,7,8] AP.f113L0 [(1,.aH b 0),(7,.int .i64 l.length),(8,.int .i64 p.length)] h=some (.ret,e',h)∧look e' 2=.bool false∧BW (p.getLast?.map (·.1)) (q.map (·.1))=false)
 | [], p, hp => by
   left
   rw[acU]at hp;subst hp
   refine⟨[(1,.aH b 0),(7,.int .i64 l.length),(8,.int .i64 l.length),(9,.bool false)],vW ?_,rfl,rfl⟩
   simp (disch:=omega)only[go_sem,yH,AP.f113L0]
 | x :: q, p, hp => by
   have hlen:l.length=p.length+(q.length+1):=by rw[hp];simp
   have hx:l[p.length]?=some x:=by rw[hp];simp
   have ho:=hv x (by rw[hp];simp)
   obtain⟨ad,a1,a2,a4,a3⟩:=rd.at_
   have hI:(0:Int)≤(p.length:Int)∧(p.length:Int)<l.length:=⟨by omega,by omega⟩
   have b1:=a1 _ hI
   have pe:PE h (ad p.length 0) (yO x.1 x.2):=by
    refine⟨fun g=>a4 _ 0 g hI,fun k=>ad p.length (0+k),fun k=>a2 _ 0 k hI,fun g hg k c hc=> ?_⟩
    have hk:k<9:=(xL.1 hc).1
    refine(a3 g hg).1 _ _ _ hI ?_
    rw[Cx,xW,show yR l=l.flatMap QF from rfl,GD CX hx hk];exact hc
   have k1:=Yp h x.1.name ho.nl
   have k2:=RG h _ _ x.1 pe ho.vec ho.vl
   have k3:=PO h _ _ x.1 pe
   have nl:=pe.nil
   obtain⟨qq,f1,f2⟩:=pe.wc
   have l0:=f2 h (Ext.refl h) 0 _ rfl
   have ih:=Pz hn h b hb rd hv q (p++[x]) (by rw[hp];simp)
   have w1:(((p++[x]).length:Nat):Int)=(p.length:Int)+1:=by simp
   rw[w1,List.getLast?_concat]at ih
   have step : aP (aV AP.A) bL AP.f113L0 (aC [(1, .aH b 0), (7, .int .i64 l.length), (8, .int .i64 p.length)] [1, 7, 8]) h = if BJ (p.getLast?.map (·.1)) x.1 then some (.normal, [(1, .aH b 0), (7, .int .i64 l.length), (8, .int .i64 ((p.length : Int) + 1))], h) else some (.ret, [(2, .bool false)], h) := by
    cases hl:p.getLast? with
    | none =>
      have hp0:p=[]:=List.getLast?_eq_none_iff.1 hl
      have hp1:p.length=0:=by rw[hp0];rfl
      clear ih w1 pe f2 a1 a2 a3 a4 hl hv hp ho hx
      rw[ac5,KL]
      generalize Ao x.1.name=B1 at *
      generalize zD x.1=B3 at *
      generalize AO x.1=B4 at *
      cases B1 with
      | false =>
        rw[adg,if_neg (by decide)]
        simp (disch:=omega)only[go_sem,yH,AP.f113L0,hb,b1,nl,f1,l0,k1,k2,k3]
      | true =>
        cases B3 with
        | false =>
          rw[adg,ac7,if_neg (by decide)]
          simp (disch:=omega)only[go_sem,yH,AP.f113L0,hb,b1,nl,f1,l0,k1,k2,k3]
        | true =>
          cases B4 with
          | false =>
            rw[ac7,ac7,if_neg (by decide)]
            simp (disch:=omega)only[go_sem,yH,AP.f113L0,hb,b1,nl,f1,l0,k1,k2,k3]
          | true =>
            rw[Bool.and_self,Bool.and_self,if_pos rfl]
            simp (disch:=omega)only[go_sem,yH,AP.f113L0,hb,b1,nl,f1,l0,k1,k2,k3]
    | some y =>
      obtain⟨p',rfl⟩:∃p',p=p'++[y]:=List.getLast?_eq_some_iff.1 hl
      have hpl:(p'++[y]).length=p'.length+1:=by simp
      have hy:l[p'.length]?=some y:=by rw[hp];simp
      have hJ:(0:Int)≤(p'.length:Int)∧(p'.length:Int)<l.length:=⟨by omega,by omega⟩
      have bj:=a1 _ hJ
      have fj:=a2 _ 0 0 hJ
      have lj:=(a3 h (Ext.refl h)).1 p'.length (0+0) (.str y.1.name) hJ (by
       rw[Cx,show yR l=l.flatMap QF from rfl,xW,GD CX hy (by omega)];rfl)
      have cmp:bH .geq (.str y.1.name) (.str x.1.name)=some (.bool (!(Op.bytesLess y.1.name.toList x.1.name.toList))):=rfl
      have n2:(((p'++[y]).length:Nat):Int)-1=(p'.length:Int):=by rw[hpl];omega
      clear ih w1 pe f2 a1 a2 a3 a4 hl hv hp ho hx hy
      rw[acR,KM]
      simp only[adC]at fj lj
      generalize Op.bytesLess y.1.name.toList x.1.name.toList=B2 at *
      generalize Ao x.1.name=B1 at *
      generalize zD x.1=B3 at *
      generalize AO x.1=B4 at *
      generalize (p'++[y]).length=pl at *
      cases B1 with
      | false =>
        rw[adg,if_neg (by decide)]
        simp (disch:=omega)only[go_sem,yH,AP.f113L0,hb,b1,nl,f1,l0,k1,k2,k3,bj,fj,lj,cmp,n2]
      | true =>
        cases B2 with
        | false =>
          rw[adg,ac7,if_neg (by decide)]
          simp (disch:=omega)only[go_sem,yH,AP.f113L0,hb,b1,nl,f1,l0,k1,k2,k3,bj,fj,lj,cmp,n2]
        | true =>
          cases B3 with
          | false =>
            rw[adg,ac7,ac7,if_neg (by decide)]
            simp (disch:=omega)only[go_sem,yH,AP.f113L0,hb,b1,nl,f1,l0,k1,k2,k3,bj,fj,lj,cmp,n2]
          | true =>
            cases B4 with
            | false =>
              rw[ac7,ac7,ac7,if_neg (by decide)]
              simp (disch:=omega)only[go_sem,yH,AP.f113L0,hb,b1,nl,f1,l0,k1,k2,k3,bj,fj,lj,cmp,n2]
            | true =>
              rw[Bool.and_self,Bool.and_self,Bool.and_self,if_pos rfl]
              simp (disch:=omega)only[go_sem,yH,AP.f113L0,hb,b1,nl,f1,l0,k1,k2,k3,bj,fj,lj,cmp,n2]
   have hmay:BW (p.getLast?.map (·.1)) ((x::q).map (·.1))=(BJ (p.getLast?.map (·.1)) x.1&&BW (some x.1) (q.map (·.1))):=rfl
   rw[hmay]
   by_cases hok:BJ (p.getLast?.map (·.1)) x.1=true
   · rw[if_pos hok]at step
     rw[hok,adn]
     rcases ih with ⟨e',r1,r2,r3⟩|⟨e',r1,r2,r3⟩
     · exact .inl ⟨e',vX step r1,r2,r3⟩
     · exact .inr ⟨e',vX step r1,r2,r3⟩
   · have hok':BJ (p.getLast?.map (·.1)) x.1=false:=by simpa using hok
     rw[if_neg hok]at step
     rw[hok',adg]
     exact .inr ⟨_,wD step,rfl,rfl⟩
def AZ (l:List zu):Bool:=BW none l&&decide (l.length≤6)
theorem SQ (h:H) (v:AV) (l:List zq) (hvs:v.sc=true) (hn:l.length<1125899906842624) (rd:zZ 9 h v l.length (yR l)) (hv:∀x∈l,BU h x):aV AP.A 113 [.agg [v]] h=some (.bool (AZ (l.map (·.1))),h):=by
 obtain⟨h1,eh1⟩:∃g,g=h.eV.alloc [v]:=⟨_,rfl⟩
 have hx:Ext h.eV h1:=by rw[eh1];exact(Ext.refl _).alloc _
 have hx0:Ext h h1:=fun i c q=>hx i c q
 have hn0:h.eV.next=h.next:=rfl
 have g1:h1.get h.next=some [v]:=by rw[eh1];exact yG rfl
 have Aq:=rd.mono fun i c q=>hx0 i c q
 have ln:=Aq.len
 have hb:∀ev:Env,look ev 0=.agg [v]→bh ev (.box 1 (.t 0))=some ([v],fun i=>.aH i 0):=by
  intro ev q
  simp only[bh,vg,q,mY]
  rw[if_pos ⟨rfl,by simp [hvs]⟩]
 unfold AZ
 rcases Pz hn h1 h.next g1 Aq (fun x hx=>(hv x hx).mono hx0) l [] rfl with ⟨e',r1,r2,r3⟩|⟨e',r1,r2,r3⟩
 · have r1':Lp AP.A [1,7,8] AP.f113L0 [(1,.aH h.next 0),(7,.int .i64 l.length),(8,.int .i64 0)] h1=some (.exit 0,e',h1):=r1
   clear r1
   have r3':BW none (l.map (·.1))=true:=r3
   rw[r3',adn,acV]
   refine wN (fn:=AP.f113) (h2:=h1) (e:=[(2,.bool (decide (l.length≤6)))]) rfl rfl rfl ?_ rfl rfl
   clear rd Aq hv hx hx0 r3 r3'
   simp only[px,py,AP.f113]
   rw[uT,uS,vO,jS,hb _ rfl]
   simp only[oG,hn0,←eh1]
   by_cases c:l.length≤6
   · simp (disch:=omega)only[go_sem,yH,g1,ln,u9,r1',r2]
   · simp (disch:=omega)only[go_sem,yH,g1,ln,u9,r1',r2]
 · have r1':Lp AP.A [1,7,8] AP.f113L0 [(1,.aH h.next 0),(7,.int .i64 l.length),(8,.int .i64 0)] h1=some (.ret,e',h1):=r1
   clear r1
   have r3':BW none (l.map (·.1))=false:=r3
   rw[r3',adg]
   refine wN (fn:=AP.f113) (h2:=h1) (e:=e') (vs:=[.bool false]) rfl rfl rfl ?_ (by simp only[AP.f113,dh,pB,r2];rfl) rfl
   clear rd Aq hv hx hx0 r3 r3'
   simp only[px,py,AP.f113]
   rw[uT,uS,vO,jS,hb _ rfl]
   simp only[oG,hn0,←eh1]
   simp (disch:=omega)only[go_sem,yH,g1,ln,u9,r1']
def Br (method : Int) (s : ByteArray) (size : Int) : Option ByteArray :=
 if size<0∨300<size then none
 else if method=0 then(if(s.size:Int)=size then some s else none)
 else if method=8 then(match zF s size with
  | .ok (o,took)=>if(o.length:Int)=size∧took=s.size then some (bytesOf o)else none
  | .error _=>none)
 else none
theorem Gt {m : Int} {s : ByteArray} {z : Int} {t : ByteArray} (h : Br m s z = some t) : (t.size : Int) = z ∧ 0 ≤ z ∧ z ≤ 300 := by
 unfold Br at h
 split at h
 · cases h
 · rename_i q
   split at h
   · split at h
     · rename_i q2;obtain rfl:=xF h;omega
     · cases h
   · split at h
     · split at h
       · split at h
         · rename_i q2
           obtain rfl:=xF h
           rw[ze];omega
         · cases h
       · cases h
     · cases h
def QA:Option ByteArray→AV
 |some t=>.cf [.str t,.int .i64 0]
 |none=>.cf [.str ⟨#[]⟩,.int .i64 900]
theorem SG (h : H) (hf : h.floor ≤ h.next) (m : Int) (s : ByteArray) (z : Int) (hs : s.size < 1125899906842624) : aV AP.A 114 [.int .i64 m, .str s, .int .i64 z] h = some (QA (Br m s z), h) := by
 unfold Br
 by_cases c1:z<0
 · rw[if_pos (.inl c1)]
   refine wN (fn:=AP.f114) (h2:=h.eV) (e:=[(6,.str ⟨#[]⟩),(7,.int .i64 900)]) rfl rfl rfl ?_ rfl rfl
   simp (disch:=omega)only[go_sem,yH,AP.f114]
 by_cases c2:300<z
 · rw[if_pos (.inr c2)]
   refine wN (fn:=AP.f114) (h2:=h.eV) (e:=[(6,.str ⟨#[]⟩),(7,.int .i64 900)]) rfl rfl rfl ?_ rfl rfl
   simp (disch:=omega)only[go_sem,yH,AP.f114]
 rw[if_neg (by omega)]
 by_cases c3:m=0
 · rw[if_pos c3]
   by_cases c4:(s.size:Int)=z
   · rw[if_pos c4]
     refine wN (fn:=AP.f114) (h2:=h.eV) (e:=[(6,.str s),(7,.int .i64 0)]) rfl rfl rfl ?_ rfl rfl
     simp (disch:=omega)only[go_sem,yH,AP.f114]
   · rw[if_neg c4]
     refine wN (fn:=AP.f114) (h2:=h.eV) (e:=[(6,.str ⟨#[]⟩),(7,.int .i64 900)]) rfl rfl rfl ?_ rfl rfl
     simp (disch:=omega)only[go_sem,yH,AP.f114]
 rw[if_neg c3]
 by_cases c5:m=8
 · rw [if_pos c5]
   have k1:=P4 h.eV (by simp) s z hs
   simp only[I]at k1
   cases hi:zF s z with
   | error k =>
     rw[hi]at k1
     simp only[P3,I]at k1
     have hk:=F3 hi
     have hk':¬k=0:=by rcases hk with rfl|rfl<;>decide
     clear hk
     refine wN (fn:=AP.f114) (h2:=h.eV) (e:=[(6,.str ⟨#[]⟩),(7,.int .i64 900)]) rfl rfl rfl ?_ rfl rfl
     simp (disch:=omega)only[go_sem,yH,AP.f114,k1]
   | ok r =>
     obtain⟨o,took⟩:=r
     rw[hi]at k1
     simp only[P3,I]at k1
     dsimp only
     have sz:=ze o
     by_cases c6:(o.length:Int)=z
     · by_cases c7:took=s.size
       · rw[if_pos ⟨c6,c7⟩]
         refine wN (fn:=AP.f114) (h2:=h.eV) (e:=[(6,.str (bytesOf o)),(7,.int .i64 0)]) rfl rfl rfl ?_ rfl rfl
         simp (disch:=omega)only[go_sem,yH,AP.f114,k1,sz]
       · rw[if_neg (fun q=>c7 q.2)]
         refine wN (fn:=AP.f114) (h2:=h.eV) (e:=[(6,.str ⟨#[]⟩),(7,.int .i64 900)]) rfl rfl rfl ?_ rfl rfl
         simp (disch:=omega)only[go_sem,yH,AP.f114,k1,sz]
     · rw[if_neg (fun q=>c6 q.1)]
       refine wN (fn:=AP.f114) (h2:=h.eV) (e:=[(6,.str ⟨#[]⟩),(7,.int .i64 900)]) rfl rfl rfl ?_ rfl rfl
       simp (disch:=omega)only[go_sem,yH,AP.f114,k1,sz]
 · rw[if_neg c5]
   refine wN (fn:=AP.f114) (h2:=h.eV) (e:=[(6,.str ⟨#[]⟩),(7,.int .i64 900)]) rfl rfl rfl ?_ rfl rfl
   simp (disch:=omega)only[go_sem,yH,AP.f114]
theorem QB (h : H) (m : Int) (s : ByteArray) (z : Int) (hs : s.size < 1125899906842624) : aV AP.A 164 [.int .i64 m, .str s, .int .i64 z] h = some (QA (Br m s z), h) := by
 unfold Br
 by_cases c1:z<0
 · rw[if_pos (.inl c1)]
   refine wN (fn:=AP.f164) (h2:=h.eV) (e:=[(6,.str ⟨#[]⟩),(7,.int .i64 900)]) rfl rfl rfl ?_ rfl rfl
   simp (disch:=omega)only[go_sem,yH,AP.f164]
 by_cases c2:300<z
 · rw[if_pos (.inr c2)]
   refine wN (fn:=AP.f164) (h2:=h.eV) (e:=[(6,.str ⟨#[]⟩),(7,.int .i64 900)]) rfl rfl rfl ?_ rfl rfl
   simp (disch:=omega)only[go_sem,yH,AP.f164]
 rw[if_neg (by omega)]
 by_cases c3:m=0
 · rw[if_pos c3]
   by_cases c4:(s.size:Int)=z
   · rw[if_pos c4]
     refine wN (fn:=AP.f164) (h2:=h.eV) (e:=[(6,.str s),(7,.int .i64 0)]) rfl rfl rfl ?_ rfl rfl
     simp (disch:=omega)only[go_sem,yH,AP.f164]
   · rw[if_neg c4]
     refine wN (fn:=AP.f164) (h2:=h.eV) (e:=[(6,.str ⟨#[]⟩),(7,.int .i64 900)]) rfl rfl rfl ?_ rfl rfl
     simp (disch:=omega)only[go_sem,yH,AP.f164]
 rw[if_neg c3]
 by_cases c5:m=8
 · rw [if_pos c5]
   have k1:=NM h.eV s z hs
   simp only[I]at k1
   cases hi:zF s z with
   | error k =>
     rw[hi]at k1
     simp only[P3,I]at k1
     have hk:=F3 hi
     have hk':¬k=0:=by rcases hk with rfl|rfl<;>decide
     clear hk
     refine wN (fn:=AP.f164) (h2:=h.eV) (e:=[(6,.str ⟨#[]⟩),(7,.int .i64 900)]) rfl rfl rfl ?_ rfl rfl
     simp (disch:=omega)only[go_sem,yH,AP.f164,k1]
   | ok r =>
     obtain⟨o,took⟩:=r
     rw[hi]at k1
     simp only[P3,I]at k1
     dsimp only
     have sz:=ze o
     by_cases c6:(o.length:Int)=z
     · by_cases c7:took=s.size
       · rw[if_pos ⟨c6,c7⟩]
         refine wN (fn:=AP.f164) (h2:=h.eV) (e:=[(6,.str (bytesOf o)),(7,.int .i64 0)]) rfl rfl rfl ?_ rfl rfl
         simp (disch:=omega)only[go_sem,yH,AP.f164,k1,sz]
       · rw[if_neg (fun q=>c7 q.2)]
         refine wN (fn:=AP.f164) (h2:=h.eV) (e:=[(6,.str ⟨#[]⟩),(7,.int .i64 900)]) rfl rfl rfl ?_ rfl rfl
         simp (disch:=omega)only[go_sem,yH,AP.f164,k1,sz]
     · rw[if_neg (fun q=>c6 q.1)]
       refine wN (fn:=AP.f164) (h2:=h.eV) (e:=[(6,.str ⟨#[]⟩),(7,.int .i64 900)]) rfl rfl rfl ?_ rfl rfl
       simp (disch:=omega)only[go_sem,yH,AP.f164,k1,sz]
 · rw[if_neg c5]
   refine wN (fn:=AP.f164) (h2:=h.eV) (e:=[(6,.str ⟨#[]⟩),(7,.int .i64 900)]) rfl rfl rfl ?_ rfl rfl
   simp (disch:=omega)only[go_sem,yH,AP.f164]
def Cz (e : zu) : Option ByteArray :=
 if AZ [e]=false then none
 else if e.gone then some ⟨#[]⟩
 else match Br e.method e.packed e.size with
  |some t=>if(AH t:Int)=e.DZ then some t else none
  |none=>none
theorem YE (h : H) (hf : h.floor ≤ h.next) (e : zu) (v : AV) (hv : v.sc = true) (ok : BU h (e, v)) : ∃ t, aV AP.A 107 [.agg (yO e v)] h = some (.cf [.str t, .bool (Cz e).isSome], h) ∧ (∀ u, Cz e = some u → t = u) := by
 obtain⟨h1,eh1⟩:∃g,g=h.eV.alloc (yO e v):=⟨_,rfl⟩
 obtain⟨h2,eh2⟩:∃g,g=h1.alloc (yO e v):=⟨_,rfl⟩
 have hx1:Ext h h1:=fun i c q=>by rw[eh1];exact((Ext.refl h.eV).alloc _) i c q
 have hx2:Ext h h2:=by rw[eh2];exact hx1.alloc _
 have hn0:h.eV.next=h.next:=rfl
 have hn1:h1.next=h.next+1:=by rw[eh1];simp
 have g1:h2.get h.next=some (yO e v):=by rw[eh2,yN (by omega),eh1,yG (by simp)]
 have g0:h1.get h.next=some (yO e v):=by rw[eh1,yG (by simp)]
 have o:zZ 9 h2 (.aI (h.next+1) 0 1 9) 1 (yR [(e,v)]):=by
  refine⟨?_,rfl,fun _=>by simp⟩
  simp only[aW,if_true]
  rw[eh2,yG (by omega)]
  rfl
 have k1:=SQ h2 (.aI (h.next+1) 0 1 9) [(e,v)] rfl (by simp) o (fun x hx=>by
  obtain rfl:x=(e,v):=by simpa using hx
  exact ok.mono hx2)
 have k1':aV AP.A 113 [.agg [.aI (h.next+1) 0 1 9]] h2=some (.bool (AZ [e]),h2):=k1
 have hf2:h2.floor≤h2.next:=by rw[eh2,eh1];simp;omega
 have k2:=SG h2 hf2 e.method e.packed e.size ok.pl
 have rdA:jg true 9 (yO e v) 0=some (.agg (yO e v)):=rfl
 have cr:∀t:ByteArray,t.size<1125899906842624→aV AP.A 115 [.str t] h2=some (.int .i64 (AH t:Nat),h2):=fun t ht=>Mw h2 t ht
 clear k1 o hx1 hx2
 unfold Cz
 simp only[yO]at *
 cases hm:AZ [e]with
 | false =>
   rw[hm]at k1'
   refine⟨⟨#[]⟩, ?_,fun u q=>by simp at q⟩
   rw[if_pos rfl]
   refine wN (fn:=AP.f107) (h2:=h2) (e:=[(2,.str ⟨#[]⟩),(3,.bool false)]) rfl rfl rfl ?_ rfl rfl
   simp (disch:=omega)only[go_sem,yH,AP.f107,hv,hn0,←eh1,g0,rdA,hn1,←eh2,k1']
 | true =>
   rw[hm]at k1'
   rw[if_neg (by decide)]
   cases hg:e.gone with
   | true =>
     rw[hg]at g1 g0 eh1 eh2 rdA
     refine⟨⟨#[]⟩, ?_,fun u q=>by simpa using q⟩
     refine wN (fn:=AP.f107) (h2:=h2) (e:=[(2,.str ⟨#[]⟩),(3,.bool true)]) rfl rfl rfl ?_ rfl rfl
     simp (disch:=omega)only[go_sem,yH,AP.f107,hv,hn0,←eh1,g0,g1,rdA,hn1,←eh2,k1']
   | false =>
     rw[hg]at g1 g0 eh1 eh2 rdA
     rw[if_neg (by decide)]
     cases hu:Br e.method e.packed e.size with
     | none =>
       rw[hu]at k2
       simp only[QA]at k2
       refine⟨⟨#[]⟩, ?_,fun u q=>by simp at q⟩
       refine wN (fn:=AP.f107) (h2:=h2) (e:=[(2,.str ⟨#[]⟩),(3,.bool false)]) rfl rfl rfl ?_ rfl rfl
       simp (disch:=omega)only[go_sem,yH,AP.f107,hv,hn0,←eh1,g0,g1,rdA,hn1,←eh2,k1',k2]
     | some t =>
       rw[hu]at k2
       simp only[QA]at k2
       have kc:=cr t (by have:=Gt hu;omega)
       dsimp only
       by_cases c:(AH t:Int)=e.DZ
       · rw[if_pos c]
         refine⟨t, ?_,fun u q=>xF q⟩
         refine wN (fn:=AP.f107) (h2:=h2) (e:=[(2,.str t),(3,.bool true)]) rfl rfl rfl ?_ rfl rfl
         simp (disch:=omega)only[go_sem,yH,AP.f107,hv,hn0,←eh1,g0,g1,rdA,hn1,←eh2,k1',k2,kc]
       · rw[if_neg c]
         refine⟨t, ?_,fun u q=>by simp at q⟩
         refine wN (fn:=AP.f107) (h2:=h2) (e:=[(2,.str t),(3,.bool false)]) rfl rfl rfl ?_ rfl rfl
         simp (disch:=omega)only[go_sem,yH,AP.f107,hv,hn0,←eh1,g0,g1,rdA,hn1,←eh2,k1',k2,kc]
def BT (e:zu):Bool:=(Cz e).isSome
theorem Rh (h:H) (hf:h.floor≤h.next) (e:zu) (v:AV) (hv:v.sc=true) (ok:BU h (e,v)):aV AP.A 96 [.agg (yO e v)] h=some (.bool (BT e),h):=by
 obtain⟨h1,eh1⟩:∃g,g=h.eV.alloc (yO e v):=⟨_,rfl⟩
 have hx1:Ext h h1:=fun i c q=>by rw[eh1];exact((Ext.refl h.eV).alloc _) i c q
 have hn0:h.eV.next=h.next:=rfl
 have g0:h1.get h.next=some (yO e v):=by rw[eh1,yG (by simp)]
 obtain⟨t,k1,_⟩:=YE h1 (by rw[eh1];simp) e v hv (ok.mono hx1)
 have rdA:jg true 9 (yO e v) 0=some (.agg (yO e v)):=rfl
 refine wN (fn:=AP.f96) (h2:=h1) (e:=[(2,.bool (BT e))]) rfl rfl rfl ?_ rfl rfl
 clear hx1
 unfold BT
 simp only[yO]at *
 simp (disch:=omega)only[go_sem,yH,AP.f96,hv,hn0,←eh1,g0,rdA,k1]
theorem Mt (e:zu):AZ [e]=(Ao e.name&&(zD e&&AO e)):=by
 unfold AZ BW
 rw[KL]
 simp [BW]
theorem RH (h : H) (e : zu) (v : AV) (hv : v.sc = true) (ok : BU h (e, v)) : aV AP.A 167 [.agg (yO e v)] h = some (.bool (AZ [e]), h) := by
 obtain⟨h1,eh1⟩:∃g,g=h.eV.alloc (yO e v):=⟨_,rfl⟩
 have hx1:Ext h h1:=fun i c q=>by rw[eh1];exact((Ext.refl h.eV).alloc _) i c q
 have hn0:h.eV.next=h.next:=rfl
 have g0:h1.get h.next=some (yO e v):=by rw[eh1,yG (by simp)]
 have k1:=O0 h1 e.name ok.nl
 have k2:=TJ h1 v e (ok.mono hx1).vec hv ok.vl
 have e1:bH .eql (.str e.packed) (.str ⟨#[]⟩)=some (.bool (Ij e.packed)):=DN _ _
 have rdA:jg true 9 (yO e v) 0=some (.agg (yO e v)):=rfl
 rw[Mt]
 refine wN (fn:=AP.f167) (h2:=h1) (e:=[(2,.bool (Ao e.name&&(zD e&&AO e)))]) rfl rfl rfl ?_ rfl rfl
 clear hx1 ok
 unfold AO Hx
 generalize Ao e.name=B1 at *
 generalize zD e=B2 at *
 generalize Ij e.packed=B3 at *
 simp only[yO]at *
 cases B1 with
 |false=>simp (disch:=omega)only[go_sem,yH,AP.f167,hv,hn0,←eh1,g0,rdA,k1,k2]
 | true =>
   cases B2 with
   |false=>simp (disch:=omega)only[go_sem,yH,AP.f167,hv,hn0,←eh1,g0,rdA,k1,k2]
   | true =>
     cases hg:e.gone with
     | true =>
       rw[hg]at g0 eh1 rdA k2
       rw[if_pos rfl]
       by_cases c1:e.method=0
       · cases B3 with
         |false=>simp (disch:=omega)only[go_sem,yH,AP.f167,hv,hn0,←eh1,g0,rdA,k1,k2,e1]
         | true =>
           by_cases c2:e.size=0
           · by_cases c3:e.DZ=0<;>simp (disch:=omega)only[go_sem,yH,AP.f167,hv,hn0,←eh1,g0,rdA,k1,k2,e1]
           · simp (disch:=omega)only[go_sem,yH,AP.f167,hv,hn0,←eh1,g0,rdA,k1,k2,e1]
       · simp (disch:=omega)only[go_sem,yH,AP.f167,hv,hn0,←eh1,g0,rdA,k1,k2,e1]
     | false =>
       rw[hg]at g0 eh1 rdA k2
       rw[if_neg (by decide)]
       by_cases c1:0≤e.size
       · by_cases c2:e.size≤300
         · by_cases c3:0≤e.DZ
           · by_cases c4:e.DZ≤4294967295
             · by_cases c5:e.method=0
               · have c5':¬e.method=8:=by omega
                 by_cases c6:(e.packed.size:Int)=e.size<;>simp (disch:=omega)only[go_sem,yH,AP.f167,hv,hn0,←eh1,g0,rdA,k1,k2,e1]
               · by_cases c7:e.method=8
                 · by_cases c8:e.packed.size≤300<;>simp (disch:=omega)only[go_sem,yH,AP.f167,hv,hn0,←eh1,g0,rdA,k1,k2,e1]
                 · simp (disch:=omega)only[go_sem,yH,AP.f167,hv,hn0,←eh1,g0,rdA,k1,k2,e1]
             · have c4':¬(0≤e.DZ∧e.DZ≤4294967295):=by omega
               simp (disch:=omega)only[go_sem,yH,AP.f167,hv,hn0,←eh1,g0,rdA,k1,k2,e1]
           · have c4':¬(0≤e.DZ∧e.DZ≤4294967295):=by omega
             simp (disch:=omega)only[go_sem,yH,AP.f167,hv,hn0,←eh1,g0,rdA,k1,k2,e1]
         · simp (disch:=omega)only[go_sem,yH,AP.f167,hv,hn0,←eh1,g0,rdA,k1,k2,e1]
       · simp (disch:=omega)only[go_sem,yH,AP.f167,hv,hn0,←eh1,g0,rdA,k1,k2,e1]
theorem Ts (h : H) (e : zu) (v : AV) (hv : v.sc = true) (ok : BU h (e, v)) : aV AP.A 157 [.agg (yO e v)] h = some (.bool (BT e), h) := by
 obtain⟨h1,eh1⟩:∃g,g=h.eV.alloc (yO e v):=⟨_,rfl⟩
 have hx1:Ext h h1:=fun i c q=>by rw[eh1];exact((Ext.refl h.eV).alloc _) i c q
 have hn0:h.eV.next=h.next:=rfl
 have g0:h1.get h.next=some (yO e v):=by rw[eh1,yG (by simp)]
 have k1:=RH h1 e v hv (ok.mono hx1)
 have k2:=QB h1 e.method e.packed e.size ok.pl
 have rdA:jg true 9 (yO e v) 0=some (.agg (yO e v)):=rfl
 have cr:∀t:ByteArray,t.size<1125899906842624→aV AP.A 101 [.str t] h1=some (.int .i64 (AH t:Nat),h1):=fun t ht=>NC h1 t ht
 unfold BT Cz
 clear hx1 ok
 cases hm:AZ [e]with
 | false =>
   rw[hm]at k1
   rw[if_pos rfl]
   refine wN (fn:=AP.f157) (h2:=h1) (e:=[(2,.bool false)]) rfl rfl rfl ?_ rfl rfl
   simp only[yO]at *
   simp (disch:=omega)only[go_sem,yH,AP.f157,hv,hn0,←eh1,g0,rdA,k1]
 | true =>
   rw[hm]at k1
   rw[if_neg (by decide)]
   cases hg:e.gone with
   | true =>
     refine wN (fn:=AP.f157) (h2:=h1) (e:=[(2,.bool true)]) rfl rfl rfl ?_ rfl rfl
     simp only[yO,hg]at *
     simp (disch:=omega)only[go_sem,yH,AP.f157,hv,hn0,←eh1,g0,rdA,k1]
   | false =>
     rw[if_neg (by decide)]
     cases hu:Br e.method e.packed e.size with
     | none =>
       rw[hu]at k2
       simp only[QA]at k2
       refine wN (fn:=AP.f157) (h2:=h1) (e:=[(2,.bool false)]) rfl rfl rfl ?_ rfl rfl
       simp only[yO,hg]at *
       simp (disch:=omega)only[go_sem,yH,AP.f157,hv,hn0,←eh1,g0,rdA,k1,k2]
     | some t =>
       rw[hu]at k2
       simp only[QA]at k2
       have kc:=cr t (by have:=Gt hu;omega)
       dsimp only
       by_cases c:(AH t:Int)=e.DZ
       · rw[if_pos c]
         refine wN (fn:=AP.f157) (h2:=h1) (e:=[(2,.bool true)]) rfl rfl rfl ?_ rfl rfl
         simp only[yO,hg]at *
         simp (disch:=omega)only[go_sem,yH,AP.f157,hv,hn0,←eh1,g0,rdA,k1,k2,kc]
       · rw[if_neg c]
         refine wN (fn:=AP.f157) (h2:=h1) (e:=[(2,.bool false)]) rfl rfl rfl ?_ rfl rfl
         simp only[yO,hg]at *
         simp (disch:=omega)only[go_sem,yH,AP.f157,hv,hn0,←eh1,g0,rdA,k1,k2,kc]
theorem Yt (c:ah) (e:Env) (h:H) (x y:X):ai c e h (.mx [x,y])=dU h (ot (x.ev e) (y.ev e)):=by
 simp only[ai,bg,acW,adr,iJ]
 cases ot (x.ev e) (y.ev e)<;>rfl
def KS (a b:Int):Int:=if a<b then b else a
theorem SY (k:IntKind) (a b:Int):ot (.int k a) (.int k b)=some (.int k (KS a b)):=rfl
theorem Rd.acj {h:H} {v:AV} {cs:List AV} (r:Rd h v cs) (hc:cs≠[]):gU 1 v .aT=some false:=by
 obtain⟨r,hs⟩:=r
 unfold aW at r
 split at r
 · obtain⟨_,h2⟩:=xH (xF r);exact absurd h2.symm hc
 · exact absurd rfl (hs _)
 · rfl
 · rfl
 · cases r
theorem En {n:Nat} {h:H} {v:AV} {k:Nat} {cs:List AV} (r:zZ n h v k cs) (hfn:h.floor≤h.next) (hn:0<n) (hk:0<k) {z:Nat} (hr:roomy z k=true) (hc:AV.aG cs=true):
 mR (h.alloc []) n z (.aI h.next 0 0 n) v=some (.aI (h.next+1) 0 k n,((h.alloc []).del h.next).alloc cs):=by
 have r2:zZ n (h.alloc []) v k cs:=r.mono fun i c q=>by rw[H.bc,if_neg (by have:=h.lt _ _ q;omega)];exact q
 unfold mR
 rw[r2.1,xM]
 have hkn:0<k* n:=Nat.mul_pos hk hn
 unfold eR
 rw[if_neg (by omega),if_neg (by simp [hc];omega)]
 simp only[H.ku,hfn,and_self,if_true]
 rw[yG rfl,xM,if_neg (by simp;omega),if_pos ⟨by simp,by simpa using hr⟩]
 simp
theorem Nq {n:Nat} {h:H} {v:AV} {cs:List AV} (r:zZ n h v 0 cs) {z:Nat}:mR (h.alloc []) n z (.aI h.next 0 0 n) v=some (.aI h.next 0 0 n,h.alloc []):=by
 have r2:zZ n (h.alloc []) v 0 cs:=r.mono fun i c q=>by rw[H.bc,if_neg (by have:=h.lt _ _ q;omega)];exact q
 unfold mR
 rw[r2.1,xM]
 rfl
theorem DL:∀l:List Int,AV.aG (ints l)=true
 |[]=>rfl
 | n :: l => by
   have:=DL l
   show AV.aG (I n::ints l)=true
   rw[sP,this];rfl
theorem Th (h:H) (v:AV) (l:List Int) (rd:Rd h v (ints l)) (hl:0<l.length) (hb:l.length<1000000) (hfn:h.floor≤h.next):aV AP.A 118 [v] h=some (.aI (h.next+1) 0 l.length 1,((h.alloc []).del h.next).alloc (ints l)):=by
 have r2:=rd.T8
 rw[rY]at r2
 have ap:=En r2 hfn (by omega) hl (z:=8) (by simp [roomy];omega) (DL l)
 have nn:=rd.acj (fun q=>by
  have q2:(ints l).length=0:=by rw[q];rfl
  rw[rY]at q2
  omega)
 refine wo (fn:=AP.f118) (h2:=((h.alloc []).del h.next).alloc (ints l)) (e:=[(2,.aI (h.next+1) 0 l.length 1)]) (vs:=[.aI (h.next+1) 0 l.length 1]) rfl rfl rfl ?_ rfl
 clear rd r2
 simp (disch:=omega)only[go_sem,yH,AP.f118,nn,ap]
def El (l:List Int):AV:=CD 1 l.length (ints l)
def LV:zu:=⟨⟨#[]⟩,false,[],0,0,0,⟨#[]⟩,0,0⟩
theorem Sj {g:Nat→Option (List AV)} {fl n:Nat} {e:zu} {v v':AV} (hv:snap g fl (n+1) true v=some v'):snap g fl (n+2) true (.agg (yO e v))=some (.agg (yO e v')):=by
 unfold snap
 simp only[yO,gV,hv]
 rfl
abbrev Z9:List AV:=[.str ⟨#[]⟩,.bool false,.aT,.int .i64 0,.int .i64 0,.int .i64 0,.str ⟨#[]⟩,.int .i64 0,.int .i64 0]
def Fh (name:ByteArray) (node:Nat) (y0:Int) (text:ByteArray):zu:=⟨name,false,[0,0,0,0].set node y0,y0,node,0,text,text.size,AH text⟩
theorem YI {l:List Int} (h:l.length=4):El l=.aZ false (ints l) 0 4 1:=by unfold El CD;rw[h,if_neg (by omega)]
theorem Ug (h:H) (name text:ByteArray) (node:Nat) (y0:Int) (hn:node<4) (ht:text.size<1125899906842624):
 aV AP.A 99 [.str name,.int .i64 node,.int .i64 y0,.str text] h=some (.agg (yO (Fh name node y0 text) (El ([0,0,0,0].set node y0))),h):=by
 obtain⟨h1,eh1⟩:∃g,g=h.eV.alloc (yO LV .aT):=⟨_,rfl⟩
 obtain⟨h2,eh2⟩:∃g,g=h1.alloc (ints [0,0,0,0]):=⟨_,rfl⟩
 obtain⟨h3,eh3⟩:∃g,g=h2.set (h.next+1) (ints ([0,0,0,0].set node y0)):=⟨_,rfl⟩
 obtain⟨h4,eh4⟩:∃g,g=h3.set h.next (yO (Fh name node y0 text) (.aI (h.next+1) 0 4 1)):=⟨_,rfl⟩
 have n0:h.eV.next=h.next:=rfl
 have n1:h1.next=h.next+1:=by rw[eh1];simp
 have f2:h2.floor=h.next:=by rw[eh2,eh1];simp
 have f3:h3.floor=h.next:=by rw[eh3];simp [f2]
 have g2:h2.get (h.next+1)=some (ints [0,0,0,0]):=by rw[eh2,yG (by omega)]
 have gz3:h3.get h.next=some (yO LV .aT):=by rw[eh3,yE (by omega),eh2,yN (by omega),eh1,yG (by simp)]
 have g3:h3.get (h.next+1)=some (ints ([0,0,0,0].set node y0)):=by rw[eh3,yM rfl,g2];rfl
 have g4:h4.get h.next=some (yO (Fh name node y0 text) (.aI (h.next+1) 0 4 1)):=by rw[eh4,yM rfl,gz3];rfl
 have g4':h4.get (h.next+1)=some (ints ([0,0,0,0].set node y0)):=by rw[eh4,yE (by omega),g3]
 have st3:wP h2 (h.next+1) node 1 [.int .i64 y0] (some (ints [0,0,0,0]))=some h3:=by
  rw[xm (by omega) (by simp;omega) rfl,eh3]
  congr 2
  match node,hn with
  |0,_=>rfl
  |1,_=>rfl
  |2,_=>rfl
  |3,_=>rfl
 have st4:wP h3 h.next 0 9 [.str name,.bool false,.aI (h.next+1) 0 4 1,.int .i64 y0,.int .i64 node,.int .i64 0,.str text,.int .i64 text.size,.int .i64 (AH text:Nat)] (some (yO LV .aT))=some h4:=by
  rw[eh4];exact Aj (by omega) rfl rfl rfl
 have e1:h.eV.alloc [.str ⟨#[]⟩,.bool false,.aT,.int .i64 0,.int .i64 0,.int .i64 0,.str ⟨#[]⟩,.int .i64 0,.int .i64 0]=h1:=eh1.symm
 have e2:h1.alloc (A3 4 [.int .i64 0])=h2:=eh2.symm
 have kc:=NC h3 text ht
 have hlen:([0,0,0,0].set node y0:List Int).length=4:=by simp
 have o:yS 1 h4 (.aI (h.next+1) 0 4 1) 4 (ints ([0,0,0,0].set node y0)):=⟨by simp,.inr ⟨_,rfl,g4',by rw[eh4];simp;omega,by omega⟩⟩
 have s1:snap h4.get h.next 15 true (.aI (h.next+1) 0 4 1)=some (El ([0,0,0,0].set node y0)):=by
  have:=o.Ap (fl:=h.next) (m:=13) (t:=true) (by rw[eh4];simp;omega)
  rw[this];unfold El;rw[hlen]
 have body:aP (aV AP.A) bL AP.f99.body (params 0 [.str name,.int .i64 node,.int .i64 y0,.str text]) h.eV=some (.ret,[(8,.aH h.next 0)],h4):=by
  clear o s1 g4 g4' g3
  have it:((node:Nat):Int).toNat=node:=by omega
  simp (disch:=omega)only[go_sem,yH,AP.f99,n0,e1,n1,e2,it,g2,st3,kc,gz3,st4]
 refine wN (fn:=AP.f99) (h2:=h4) (e:=[(8,.aH h.next 0)]) (vs:=[.agg (yO (Fh name node y0 text) (.aI (h.next+1) 0 4 1))]) rfl rfl rfl body ?_ ?_
 · simp only[AP.f99,dh,pB,oW,tR,g4,vR];rfl
 · exact Sj s1
theorem Ti (h : H) (hf : h.floor ≤ h.next) (e : zu) (v : AV) (hv : v.sc = true) (ok : BU h (e, v)) (hb : e.vec.length < 20000000000000) :
 ∃h' v',aV AP.A 92 [.agg (yO e v)] h=some (.agg (yO e v'),h')∧v'=(if e.vec=[]then .aI (h.next+2) 0 0 1 else .aI (h.next+3) 0 e.vec.length 1)∧Rd h' v' (ints e.vec)∧h'.floor=h.floor∧h.next+3≤h'.next∧Ext h h'∧(0<e.vec.length→h'.get (h.next+3)=some (ints e.vec)):=by
 obtain⟨h1,eh1⟩:∃g,g=h.alloc (yO e v):=⟨_,rfl⟩
 obtain⟨h2,eh2⟩:∃g,g=h1.alloc (yO LV .aT):=⟨_,rfl⟩
 have n1:h1.next=h.next+1:=by rw[eh1];simp
 have n2:h2.next=h.next+2:=by rw[eh2];simp [n1]
 have f2:h2.floor=h.floor:=by rw[eh2,eh1];simp
 have x2:Ext h h2:=by rw[eh2,eh1];exact((Ext.refl h).alloc _).alloc _
 have ga2:h2.get h.next=some (yO e v):=by rw[eh2,yN (by omega),eh1,yG rfl]
 have gz2:h2.get (h.next+1)=some (yO LV .aT):=by rw[eh2,yG (by omega)]
 have r2:=(ok.vec.mono fun i c q=>x2 i c q).T8
 rw[rY]at r2
 obtain⟨v',h3,ap,hv',hcl,hsc,hrd,g3,f3,n3,hget,x3⟩:∃v' h3,mR (h2.alloc []) 1 8 (.aI h2.next 0 0 1) v=some (v',h3)∧v'=(if e.vec=[]then .aI (h.next+2) 0 0 1 else .aI (h.next+3) 0 e.vec.length 1)∧v'.cells=[v']∧v'.sc=true∧Rd h3 v' (ints e.vec)∧
  (∀i,i<h.next+2→h3.get i=h2.get i)∧h3.floor=h.floor∧h.next+3≤h3.next∧(0<e.vec.length→h3.get (h.next+3)=some (ints e.vec))∧Ext h h3:=by
  by_cases c:e.vec=[]
  · rw[c]at r2
    have:=Nq (z:=8) r2
    refine⟨_,_,this,by rw[if_pos c,n2],rfl,rfl, ?_,fun i hi=> ?_,by simp [f2],by simp [n2],fun q=>by rw[c]at q;simp at q,x2.alloc _⟩
    · rw[c]
      refine⟨?_,fun _=>by simp⟩
      simp only[aW,if_true]
      rw[yG (by omega)];rfl
    · rw[yN (by omega)]
  · have hp:0<e.vec.length:=adx.2 c
    have:=En r2 (by omega) (by omega) hp (z:=8) (by simp [roomy];omega) (DL e.vec)
    refine⟨_,_,this,by rw[if_neg c,n2],rfl,rfl, ?_,fun i hi=> ?_,by simp [f2],by simp [n2],fun _=> ?_,fun i d q=> ?_⟩
    · refine⟨?_,fun _=>by simp⟩
      simp only[aW,if_true]
      rw[yG (by simp),xM,if_pos (by simp),ac8,yo (by simp),rY]
    · rw[yN (by simp;omega),H.eZ,if_neg (by omega),yN (by omega)]
    · rw[yG (by simp [n2])]
    · have:=h.lt _ _ q
      rw[yN (by simp;omega),H.eZ,if_neg (by omega),yN (by omega)];exact x2 i d q
 obtain⟨h4,eh4⟩:∃g,g=h3.set h.next (yO e v'):=⟨_,rfl⟩
 obtain⟨h5,eh5⟩:∃g,g=h4.set (h.next+1) (yO e v'):=⟨_,rfl⟩
 have ga3:h3.get h.next=some (yO e v):=by rw[g3 _ (by omega),ga2]
 have gz3:h3.get (h.next+1)=some (yO LV .aT):=by rw[g3 _ (by omega),gz2]
 have ga4:h4.get h.next=some (yO e v'):=by rw[eh4,yM rfl,ga3];rfl
 have gz4:h4.get (h.next+1)=some (yO LV .aT):=by rw[eh4,yE (by omega),gz3]
 have gz5:h5.get (h.next+1)=some (yO e v'):=by rw[eh5,yM rfl,gz4];rfl
 have st4:wP h3 h.next 2 1 [v'] (some (yO e v))=some h4:=by rw[xm (by omega) (by show 2<9;omega) hsc,eh4];rfl
 have st5:wP h4 (h.next+1) 0 9 (yO e v') (some (yO LV .aT))=some h5:=by
  rw[eh5];exact Aj (by rw[eh4];simp;omega) rfl rfl (by simp [yO,hsc])
 have e1:h.alloc (yO e v)=h1:=eh1.symm
 have e2:h1.alloc [.str ⟨#[]⟩,.bool false,.aT,.int .i64 0,.int .i64 0,.int .i64 0,.str ⟨#[]⟩,.int .i64 0,.int .i64 0]=h2:=eh2.symm
 have rr:jg true 9 (yO e v') 0=some (.agg (yO e v')):=rfl
 have lE:(yO e v).length=9:=rfl
 have sE:AV.aG (yO e v)=true:=by simp [yO,hv]
 have c2:(yO e v)[2]?=some v:=rfl
 have hg:∀i,i≠h.next→i≠h.next+1→h5.get i=h3.get i:=fun i q1 q2=>by rw[eh5,yE q2,eh4,yE q1]
 have x5:Ext h3 h5→True:=fun _=>trivial
 refine⟨h5,v',wo (fn:=AP.f92) (h2:=h5) (e:=[(2,.aH (h.next+1) 0)]) (vs:=[.agg (yO e v')]) rfl rfl rfl ?_ ?_,hv', ?_,by rw[eh5,eh4];simp [f3],by rw[eh5,eh4];simpa using n3, ?_,fun q=>by rw[hg _ (by omega) (by omega)];exact hget q⟩
 · clear x5 hg x2 x3 g3 hrd hget r2 ok
   generalize yO e v=A at *
   generalize yO e v'=B at *
   simp (disch:=omega)only[go_sem,yH,AP.f92,lE,sE,e1,n1,e2,ga2,yN,c2,ap,ga3,hcl,st4,ga4,rr,gz4,st5]
 · simp only[AP.f92,dh,pB,oW,tR,gz5,vR];rfl
 · obtain⟨q1,q2⟩:=hrd
   refine⟨?_,q2⟩
   rw[←q1]
   rw[hv']
   by_cases c:e.vec=[]
   · rw[if_pos c];simp only[aW,if_true];rw[hg _ (by omega) (by omega)]
   · rw[if_neg c];simp only[aW,if_true];rw[hg _ (by omega) (by omega)]
 · intro i d q
   have:=h.lt _ _ q
   rw[hg _ (by omega) (by omega)];exact x3 i d q
theorem Pl {v w : AV} {a b : List Int} (hab : a.length = b.length) (hl : a.length < 1125899906842624) (h : H) (ra : Rd h v (ints a)) (rb : Rd h w (ints b)) : ∀ (p q r : List Int) (p' : List Int), a = p ++ q → b = p' ++ r → p.length = p'.length →
 (∃e',Lp AP.A [0,1,5] AP.f106L0 [(0,v),(1,w),(5,.int .i64 p.length)] h=some (.exit 0,e',h)∧decide (q=r)=true)∨
 (∃e',Lp AP.A [0,1,5] AP.f106L0 [(0,v),(1,w),(5,.int .i64 p.length)] h=some (.ret,e',h)∧look e' 4=.bool false∧decide (q=r)=false)
 | p, [], r, p', hp, hq, hpp => by
   have hr:r=[]:=ada (by rw[hp,hq]at hab;simp at hab;omega)
   left
   have ln:=ra.len
   rw[rY]at ln
   simp only[I]at ln
   rw[acU]at hp
   refine⟨[(0,v),(1,w),(5,.int .i64 p.length),(14,.bool false)],vW ?_,by rw[hr];rfl⟩
   rw[hp]at ln
   clear hab hl ra rb
   simp (disch:=omega)only[go_sem,yH,AP.f106L0,ln]
 | p, x :: q, [], p', hp, hq, hpp => by
   exfalso
   rw[hp,hq]at hab;simp at hab;omega
 | p, x :: q, y :: r, p', hp, hq, hpp => by
   have ln:=ra.len
   rw[rY]at ln
   simp only[I]at ln
   have hlen:a.length=p.length+(q.length+1):=by rw[hp];simp
   have hx:a[p.length]?=some x:=by rw[hp];simp
   have hy:b[p.length]?=some y:=by rw[hpp,hq];simp
   obtain⟨ad,a1,a2⟩:=ra.zL
   obtain⟨bd,b1,b2⟩:=rb.zL
   have i1:=a1 p.length ⟨by omega,by omega⟩
   have i2:=b1 p.length ⟨by omega,by omega⟩
   have l1:=a2 h (Ext.refl h) _ _ hx
   have l2:=b2 h (Ext.refl h) _ _ hy
   have w1:(((p++[x]).length:Nat):Int)=(p.length:Int)+1:=by simp
   have ih:=Pl hab hl h ra rb (p++[x]) q r (p'++[y]) (by rw[hp];simp) (by rw[hq];simp) (by simp;omega)
   rw[w1]at ih
   clear a1 a2 b1 b2 ra rb w1
   by_cases c:x=y
   · have step:aP (aV AP.A) bL AP.f106L0 (aC [(0,v),(1,w),(5,.int .i64 p.length)] [0,1,5]) h=some (.normal,[(0,v),(1,w),(5,.int .i64 ((p.length:Int)+1))],h):=by
      clear ih hp hq
      simp (disch:=omega)only[go_sem,yH,AP.f106L0,ln,i1,i2,l1,l2]
     have e:decide (x::q=y::r)=decide (q=r):=by simp [c]
     rw[e]
     rcases ih with ⟨e',r1,r2⟩|⟨e',r1,r2,r3⟩
     · exact .inl ⟨e',vX step r1,r2⟩
     · exact .inr ⟨e',vX step r1,r2,r3⟩
   · right
     refine⟨[(4,.bool false)],wD ?_,rfl,by simp [c]⟩
     clear ih hp hq
     simp (disch:=omega)only[go_sem,yH,AP.f106L0,ln,i1,i2,l1,l2]
theorem Pd (h:H) (v w:AV) (a b:List Int) (ra:Rd h v (ints a)) (rb:Rd h w (ints b)) (hl:a.length<1125899906842624):aV AP.A 106 [v,w] h=some (.bool (decide (a=b)),h):=by
 have ra':=ra.mono (yQ h)
 have rb':=rb.mono (yQ h)
 have la:=ra'.len
 have lb:=rb'.len
 rw[rY]at la lb
 simp only[I]at la lb
 by_cases c:a.length=b.length
 · rcases Pl c hl h.eV ra' rb' [] a b [] rfl rfl rfl with ⟨e',r1,r2⟩|⟨e',r1,r2,r3⟩
   · have r1':Lp AP.A [0,1,5] AP.f106L0 [(0,v),(1,w),(5,.int .i64 0)] h.eV=some (.exit 0,e',h.eV):=r1
     clear r1
     rw[r2]
     refine wN (fn:=AP.f106) (h2:=h.eV) (e:=[(4,.bool true)]) rfl rfl rfl ?_ rfl rfl
     simp (disch:=omega)only[go_sem,yH,AP.f106,la,lb,u9,r1']
   · have r1':Lp AP.A [0,1,5] AP.f106L0 [(0,v),(1,w),(5,.int .i64 0)] h.eV=some (.ret,e',h.eV):=r1
     clear r1
     rw[r3]
     refine wN (fn:=AP.f106) (h2:=h.eV) (e:=e') (vs:=[.bool false]) rfl rfl rfl ?_ (by simp only[AP.f106,dh,pB,r2];rfl) rfl
     simp (disch:=omega)only[go_sem,yH,AP.f106,la,lb,u9,r1']
 · have e:decide (a=b)=false:=by rw[decide_eq_false_iff_not];intro q;exact c (by rw[q])
   rw[e]
   refine wN (fn:=AP.f106) (h2:=h.eV) (e:=[(4,.bool false)]) rfl rfl rfl ?_ rfl rfl
   simp (disch:=omega)only[go_sem,yH,AP.f106,la,lb]
def Sb (a b:zu):Bool:=(a.name.data.toList==b.name.data.toList)&&((a.gone==b.gone)&&(decide (a.vec=b.vec)&&(decide (a.y0=b.y0)&&(decide (a.node=b.node)&&(decide (a.method=b.method)&&((a.packed.data.toList==b.packed.data.toList)&&(decide (a.size=b.size)&&decide (a.DZ=b.DZ))))))))
theorem N5 (a b:zu):Sb a b=true↔a=b:=by
 have q:∀x y:ByteArray,(x.data.toList==y.data.toList)=true↔x=y:=fun x y=>by
  constructor
  · intro e;exact ByteArray.ext (Array.toList_inj.1 (eq_of_beq e))
  · rintro rfl;exact MW _
 obtain⟨a1,a2,a3,a4,a5,a6,a7,a8,a9⟩:=a
 obtain⟨b1,b2,b3,b4,b5,b6,b7,b8,b9⟩:=b
 simp only[Sb,xR,ac6,q,beq_iff_eq,zu.mk.injEq]
def nA:ByteArray:=⟨#[97]⟩
def tHi:ByteArray:=⟨#[104,105]⟩
def tHo:ByteArray:=⟨#[104,111]⟩
def eA:zu:=Fh nA 0 1 tHi
def eB:zu:=Fh nA 2 1 tHo
theorem BU.au {h:H} {e:zu} (hv:e.vec.length=4) (nl:e.name.size<1000000) (pl:e.packed.size<1000000):BU h (e,El e.vec):=
 ⟨by rw[show(e,El e.vec).2=El e.vec from rfl,YI hv];have:=Bf h e.vec;unfold zj at this;rw[hv]at this;exact this,by show e.vec.length<_;omega,by show e.name.size<_;omega,by show e.packed.size<_;omega⟩
theorem Rd.obj {h:H} {p n:Nat} {l:List Int} (hp:h.get p=some (ints l)) (hl:l.length=n):Rd h (.aI p 0 n 1) (ints l):=
 ⟨by subst hl;simp only[aW,if_true,hp,xM];rw[if_pos (by simp),ac8,yo (by simp),rY],fun s e=>by cases e⟩
theorem BU.obj {h:H} {e:zu} {p n:Nat} {l:List Int} (hp:h.get p=some (ints l)) (hl:l.length=n) (he:e.vec=l:=by rfl) (nl:e.name.size<1125899906842624) (pl:e.packed.size<1125899906842624) (hn:n<1000000:=by decide):BU h (e,.aI p 0 n 1):=
 ⟨by show Rd h _ (ints e.vec);rw[he];exact Rd.obj hp hl,by show e.vec.length<_;rw[he];omega,by show e.name.size<_;omega,by show e.packed.size<_;omega⟩
theorem Tj (t:ByteArray):AH t<4294967296:=F6 0 t
theorem Pu (l:List Int):(El l).sc=true:=by unfold El CD;split<;>rfl
theorem Cu {e:zu} {v:AV} (h:v.sc=true):AV.aG (yO e v)=true:=by simp [yO,h]
def eD:zu:={eA with DZ:=(AH tHi^^^1:Nat)}
def F4:Ty:=.int .i64
def YD:Ty:=.str
def UF:Ty:=.sl F4 1 8
def Wz:Ty:=.st [.str,.bool,UF,F4,F4,F4,.str,F4,F4]
theorem Eg {B:Nat} {as:List AV} (h:Sh B F4 as):∃n,as=[.int .i64 n]∧(-9223372036854775808≤n∧n<9223372036854775808):=by
 cases h with
 |int h=>exact⟨_,rfl,wj h⟩
theorem Ua {B:Nat} {as:List AV} (h:Sh B .bool as):∃b,as=[.bool b]:=by
 cases h with
 |bool b=>exact⟨b,rfl⟩
theorem N6 {as:List AV} (h:Sh reachBytes .str as):∃s:ByteArray,as=[.str s]∧s.size<140737488355328:=by
 cases h with
 |str h=>exact⟨_,rfl,wR h⟩
theorem Ue {B:Nat} {as:List AV} {ess:List (List AV)} (h:∀es,es∈ess→Sh B F4 es):∃l:List Int,l.length=ess.length∧ess.flatten=ints l:=by
 induction ess with
 |nil=>exact⟨[],rfl,rfl⟩
 | cons x ess ih =>
   obtain⟨n,rfl,_⟩:=Eg (h x (by simp))
   obtain⟨l,h1,h2⟩:=ih fun es q=>h es (by simp [q])
   exact⟨n::l,by simp [h1],by rw[List.flatten_cons,h2];rfl⟩
theorem Ud {as:List AV} (h:Sh reachBytes UF as):∃(v:AV) (l:List Int),as=[v]∧v.sc=true∧(∀g,Rd g v (ints l))∧l.length<20000000000000:=by
 cases h with
 |aT=>exact⟨.aT,[],rfl,rfl,fun g=>⟨rfl,fun s e=>by cases e⟩,by simp⟩
 | aZ ess h hz hb =>
   obtain⟨l,h1,h2⟩:=Ue (as:=[]) h
   rw[h2,←h1]
   refine⟨_,l,rfl,rfl,fun g=> ?_, ?_⟩
   · have:=Bf g l
     unfold zj at this;exact this
   · rw[h1];unfold reachBytes at hb;omega
theorem Bj {B:Nat} {f:Ty} {fs:List Ty} {as:List AV} (h:jV B (f::fs) as):∃a r,as=a++r∧Sh B f a∧jV B fs r:=by
 cases h with
 |cons h hr=>exact⟨_,_,rfl,h,hr⟩
theorem Pg {B:Nat} {as:List AV} (h:jV B [] as):as=[]:=by
 cases h;rfl
theorem UL {B:Nat} {fs:List Ty} {as:List AV} (h:Sh B (.st fs) as):jV B fs as:=by
 cases h with
 |st h=>exact h
theorem YA {as:List AV} (h:Sh reachBytes Wz as):∃(e:zu) (v:AV),as=yO e v∧v.sc=true∧(∀g,BU g (e,v))∧e.vec.length<20000000000000:=by
 obtain⟨a1,r1,rfl,s1,h1⟩:=Bj (UL h)
 obtain⟨a2,r2,rfl,s2,h2⟩:=Bj h1
 obtain⟨a3,r3,rfl,s3,h3⟩:=Bj h2
 obtain⟨a4,r4,rfl,s4,h4⟩:=Bj h3
 obtain⟨a5,r5,rfl,s5,h5⟩:=Bj h4
 obtain⟨a6,r6,rfl,s6,h6⟩:=Bj h5
 obtain⟨a7,r7,rfl,s7,h7⟩:=Bj h6
 obtain⟨a8,r8,rfl,s8,h8⟩:=Bj h7
 obtain⟨a9,r9,rfl,s9,h9⟩:=Bj h8
 obtain rfl:=Pg h9
 obtain⟨n,rfl,z1⟩:=N6 s1
 obtain⟨g,rfl⟩:=Ua s2
 obtain⟨v,l,rfl,hv,rd,z3⟩:=Ud s3
 obtain⟨st,rfl,_⟩:=Eg s4
 obtain⟨no,rfl,_⟩:=Eg s5
 obtain⟨me,rfl,_⟩:=Eg s6
 obtain⟨pa,rfl,z7⟩:=N6 s7
 obtain⟨si,rfl,_⟩:=Eg s8
 obtain⟨cr,rfl,_⟩:=Eg s9
 exact⟨⟨n,g,l,st,no,me,pa,si,cr⟩,v,rfl,hv,fun g=>⟨rd g,by show l.length<_;omega,by show n.size<_;omega,by show pa.size<_;omega⟩,z3⟩
theorem acm {P:Ty×List AV→Prop} {a b c d:Ty} {r:List (Ty×List AV)} (h:r.map (·.1)=[a,b,c,d]) (hp:∀x∈r,P x):∃x y z w,r=[(a,x),(b,y),(c,z),(d,w)]∧P (a,x)∧P (b,y)∧P (c,z)∧P (d,w):=by
 match r,h with
 |[(a',x),(b',y),(c',z),(d',w)],h=>simp at h;obtain⟨rfl,rfl,rfl,rfl⟩:=h;exact⟨x,y,z,w,rfl,hp _ (by simp),hp _ (by simp),hp _ (by simp),hp _ (by simp)⟩
end Ab
