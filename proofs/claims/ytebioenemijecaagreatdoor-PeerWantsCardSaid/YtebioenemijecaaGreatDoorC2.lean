/- Part C2. -/
import Derived.Test.YtebioenemijecaaGreatDoorC1
set_option linter.unusedSimpArgs false
set_option linter.unusedVariables false
namespace Ab
open Go
theorem yZ {c:FC} {S:SS} {h:H} {ov:AV} (st:Ft c S h ov) (a b:AV) (n d i:Nat) (hs:n≤i∨(i<n∧S.e≠0)):
 ∃e',Lp AP.A [0,1,2,10,14,15] AP.f20L0 [(0,.aE c.f 0),(1,a),(2,b),(10,I n),(14,I d),(15,I i)] h=some (.exit 2,e',h)∧look e' 0=.aE c.f 0∧look e' 1=a∧look e' 2=b:=by
 have gf:=st.gf
 refine⟨[(0,.aE c.f 0),(1,a),(2,b),(10,I n),(14,I d),(15,I i),(107,.bool false)],tc ?_,rfl,rfl,rfl⟩
 rcases hs with hn|⟨hn,he⟩
 · have c1:¬(i:Int)<n:=by omega
   simp only[I]at *
   simp only[AP.f20L0,go_sem,UB c1]
 · have c1:(i:Int)<n:=by omega
   have c2:=tW he
   simp only[I]at *
   simp only[AP.f20L0,go_sem,UC c1,gf,c2]
theorem BR {c : FC} (a b : AV) (d : Nat) (hd : 0 < d) (n : Nat) (hn : n ≤ 65535) : ∀ (m i : Nat) (S : SS) (h : H) (ov : AV), i + m = n → Ft c S h ov → S.e = 0 → d ≤ S.out.length →
 ∃ e' h' ov' S', Lp AP.A [0, 1, 2, 10, 14, 15] AP.f20L0 [(0, .aE c.f 0), (1, a), (2, b), (10, I n), (14, I d), (15, I i)] h = some (.exit 2, e', h') ∧ look e' 0 = .aE c.f 0 ∧ look e' 1 = a ∧ look e' 2 = b ∧ Ft c S' h' ov' ∧ FF c h ov h' ov' ∧ match zk c.most d m S.out with
   | .ok o=>S'={S with out:=o}
   | .error k=>S'.e=k∧k≠0
 | 0, i, S, h, ov, hm, st, he, hl => by
   obtain⟨e',q,q2⟩:=yZ st a b n d i (.inl (by omega))
   exact⟨e',h,ov,S,q,q2.1,q2.2.1,q2.2.2,st,FF.refl _ _ _,by simp only[zk]⟩
 | m + 1, i, S, h, ov, hm, st, he, hl => by
   have gf:=st.gf
   have hol:=st.ol
   have hml:=st.ml
   have ln:=st.own.len
   rw[xy]at ln
   have c1:(i:Int)<n:=by omega
   have w1:IntKind.wrap .i64 ((i:Int)+1)=((i+1:Nat):Int):=vk (n:=i+1) (by omega)
   have w2:IntKind.wrap .i64 ((S.out.length:Int)-d)=((S.out.length-d:Nat):Int):=by rw[show(S.out.length:Int)-d=((S.out.length-d:Nat):Int)by omega];exact vk (by omega)
   have hb:=FX (l:=S.out) (i:=S.out.length-d) (by omega)
   obtain⟨id,i1,i2,i3⟩:=st.own.elem hb
   obtain⟨h2,ov2,S2,p1,p2,p3,p4⟩:=FA st he (S.out.getD (S.out.length-d) 0)
   have step:aM (aS AP.A) bD AP.f20L0 (ay [(0,.aE c.f 0),(1,a),(2,b),(10,I n),(14,I d),(15,I i)] [0,1,2,10,14,15]) h=some (.normal,[(0,.aE c.f 0),(1,a),(2,b),(10,I n),(14,I d),(15,I (i+1:Nat))],h2):=by
    clear i1
    rw[he]at gf
    simp only[I]at *
    simp only[AP.f20L0,go_sem,UC c1,gf,ln,w2,i2,i3,hb,p1,w1]
   rw[zk]
   by_cases hm':c.most≤S.out.length
   · rw[if_pos hm']at p4 ⊢
     have he2:S2.e=701:=by rw[p4]
     have hs:n≤i+1∨(i+1<n∧S2.e≠0):=by
      by_cases q:i+1<n
      · exact .inr ⟨q,by rw[he2];decide⟩
      · exact .inl (by omega)
     obtain⟨e',q,q2⟩:=yZ p2 a b n d (i+1) hs
     exact⟨e',h2,ov2,_,td step q,q2.1,q2.2.1,q2.2.2,p2,p3,he2,by decide⟩
   · rw[if_neg hm']at p4 ⊢
     subst p4
     obtain⟨e',h',ov',S',q1,q2,q3,q4,q5,q6,q7⟩:=BR a b d hd n hn m (i+1) _ h2 ov2 (by omega) p2 rfl (by simp;omega)
     refine⟨e',h',ov',S',td step q1,q2,q3,q4,q5,p3.trans q6, ?_⟩
     dsimp only at q7 ⊢
     rw[he]
     exact q7
theorem yD {c:FC} {S:SS} {h:H} {ov:AV} (st:Ft c S h ov) (a b:AV) (hs:S.e≠0):
 ∃e',Lp AP.A [0,1,2] AP.f20L1 [(0,.aE c.f 0),(1,a),(2,b)] h=some (.exit 0,e',h):=by
 have gf:=st.gf
 refine⟨[(0,.aE c.f 0),(1,a),(2,b),(20,.bool false)],tc ?_⟩
 have c2:=tW hs
 simp only[I]at *
 simp only[AP.f20L1,go_sem,gf,c2]
theorem zu {c : FC} (ll dl : List Int) (hll : ll.length < 1000) (hdl : dl.length < 1000) : ∀ (k : Nat) (S : SS) (h : H) (ov : AV), Ft c S h ov → S.e = 0 → 8 * c.text.size < S.at_ + k →
 ∃e' h' ov' S',(Lp AP.A [0,1,2] AP.f20L1 [(0,.aE c.f 0),(1,vC ll),(2,vC dl)] h=some (.ret,e',h')∨Lp AP.A [0,1,2] AP.f20L1 [(0,.aE c.f 0),(1,vC ll),(2,vC dl)] h=some (.exit 0,e',h'))∧Ft c S' h' ov'∧FF c h ov h' ov'∧Fin (xJ c.text c.most ll dl k S.at_ S.out) S'
 |0,S,h,ov,st,he,hk=>by have:=st.wX;omega
 | k + 1, S, h, ov, st, he, hk => by
   have gf:=st.gf
   rw[he]at gf
   obtain⟨h1,S1,z,s1,s2,s3,s4⟩:=AN ll hll st he
   have gf1:=s2.gf
   rw[xJ]
   cases hz:xU c.text ll 15 1 0 S.at_ with
   | none =>
     rw[hz]at s4
     obtain⟨s4,s5⟩:=s4
     have ce:(S1.e !=0)=true:=ua (by rw[s4];decide)
     refine⟨[(0,.aE c.f 0),(1,vC ll),(2,vC dl),(6,I z),(32,.bool true)],h1,ov,S1,.inl (tF ?_),s2,s3,s4,by decide⟩
     simp only[I]at *
     simp only[AP.f20L1,go_sem,gf,s1,gf1,ce]
   | some zp =>
     obtain⟨z2,p1⟩:=zp
     rw[hz]at s4
     obtain⟨s4,s5⟩:=s4
     subst s5 s4
     dsimp only at gf1
     rw[he]at gf1
     have zb:=xN hz
     obtain⟨y,hy⟩:∃n:Nat,z=n:=US zb.1
     subst hy
     dsimp only
     by_cases c1:(y:Int)<256
     · rw[if_pos c1]
       have w1:IntKind.wrap .u8 (y:Int)=y:=wrap_u8 (by omega)
       have c256:((y:Int)==256)=false:=tW (by omega)
       obtain⟨h2,ov2,S2,p1',p2',p3',p4'⟩:=FA s2 he y
       have step:aM (aS AP.A) bD AP.f20L1 (ay [(0,.aE c.f 0),(1,vC ll),(2,vC dl)] [0,1,2]) h=some (.normal,[(0,.aE c.f 0),(1,vC ll),(2,vC dl)],h2):=by
        simp only[I]at *
        simp only[AP.f20L1,go_sem,gf,s1,gf1,c256,UC c1,w1,p1']
       dsimp only at p4'
       by_cases hm:c.most≤S.out.length
       · rw[if_pos hm]at p4' ⊢
         have he2:S2.e=701:=by rw[p4']
         obtain⟨e',q⟩:=yD p2' (vC ll) (vC dl) (by rw[he2];decide)
         exact⟨e',h2,ov2,_,.inr (td step q),p2',s3.trans p3',he2,by decide⟩
       · rw[if_neg hm]at p4' ⊢
         subst p4'
         obtain⟨e',h',ov',S',q1,q2,q3,q4⟩:=zu ll dl hll hdl k _ h2 ov2 p2' rfl (by dsimp only;omega)
         refine⟨e',h',ov',S', ?_,q2,(s3.trans p3').trans q3,q4⟩
         rcases q1 with q1|q1
         · exact .inl (td step q1)
         · exact .inr (td step q1)
     · rw [if_neg c1]
       by_cases c2:(y:Int)=256
       · rw[if_pos c2]
         refine⟨[(0,.aE c.f 0),(1,vC ll),(2,vC dl),(6,I y),(32,.bool true)],h1,ov,_,.inl (tF ?_),s2,s3, ?_⟩
         · have c2':=tY c2
           simp only[I]at *
           simp only[AP.f20L1,go_sem,gf,s1,gf1,c2']
         · simp only[Fin];rw[he]
       · rw [if_neg c2]
         have c256:=tW c2
         have lo:=Iu h1 y (by omega)
         rw[U3]
         unfold Ao
         have n600:((600:Int) !=0)=true:=rfl
         have n0:((0:Int) !=0)=false:=rfl
         cases hlo:lenOf y with
         | none =>
           rw[hlo]at lo
           obtain⟨h2,f1,f2,f3⟩:=xQ s2
           refine⟨[],h2,ov,_,.inl (tF ?_),f2,s3.trans f3,by simp [vv,he],by decide⟩
           simp only[I,zE]at *
           simp only[AP.f20L1,go_sem,gf,s1,gf1,c256,UB c1,lo,n600,f1]
         | some le =>
           obtain⟨least,extra⟩:=le
           rw[hlo]at lo
           obtain⟨b1,b2,b3⟩:=EF hlo
           obtain⟨h2,k1,k2,k3⟩:=xz s2 extra extra rfl (by omega)
           dsimp only
           by_cases hp:p1+extra≤8* c.text.size
           · have eg : vI c extra { S with at_ := p1 } = (vr c.text p1 extra, { S with at_ := p1 + extra }) := by rw [vI, if_pos hp]
             rw[eg]at k1 k2
             dsimp only at k1 k2
             rw[if_pos hp]
             have gf2:=k2.gf
             dsimp only at gf2
             rw[he]at gf2
             have hve:=vX c.text p1 extra
             have hve2:2^extra≤2^5:=UN (by omega) b2
             have w1:IntKind.wrap .i64 ((least:Int)+(vr c.text p1 extra:Int))=((least+vr c.text p1 extra:Nat):Int):=by
              rw[show(least:Int)+(vr c.text p1 extra:Int)=((least+vr c.text p1 extra:Nat):Int)by omega];exact vk (by omega)
             obtain⟨h3,S3,z,s1',s2',s3',s4'⟩:=AN dl hdl k2 he
             have gf3:=s2'.gf
             dsimp only at s4'
             cases hz2:xU c.text dl 15 1 0 (p1+extra)with
             | none =>
               rw[hz2]at s4'
               obtain⟨s4',s5'⟩:=s4'
               have ce3:(S3.e !=0)=true:=ua (by rw[s4'];decide)
               refine⟨[(0,.aE c.f 0),(1,vC ll),(2,vC dl),(10,I (least+vr c.text p1 extra:Nat)),(11,I z),(66,.bool true)],h3,ov,S3,.inl (tF ?_),s2',(s3.trans k3).trans s3',s4',by decide⟩
               simp only[I,zE]at *
               simp only[AP.f20L1,go_sem,gf,s1,gf1,c256,UB c1,lo,n0,k1,w1,gf2,s1',gf3,ce3]
             | some zp =>
               obtain⟨z2,p2⟩:=zp
               rw[hz2]at s4'
               obtain⟨s4',s5'⟩:=s4'
               subst s5' s4'
               have zb2:=xN hz2
               obtain⟨zn,hzn⟩:∃n:Nat,z=n:=US zb2.1
               subst hzn
               have dob:=Hd h3 zn (by omega)
               dsimp only at gf3 ⊢
               rw[he]at gf3
               rw[U3]
               cases hdo:xK zn with
               | none =>
                 rw[hdo]at dob
                 obtain⟨h4,f1,f2,f3⟩:=xQ s2'
                 refine⟨[],h4,ov,_,.inl (tF ?_),f2,((s3.trans k3).trans s3').trans f3,by simp [vv,he],by decide⟩
                 simp only[I,zE]at *
                 simp only[AP.f20L1,go_sem,gf,s1,gf1,c256,UB c1,lo,n0,k1,w1,gf2,s1',gf3,dob,n600,f1]
               | some lx =>
                 obtain⟨ld,xd⟩:=lx
                 rw[hdo]at dob
                 obtain⟨d1,d2,d3⟩:=CP hdo
                 obtain⟨h4,v1,v2,v3⟩:=xz s2' xd xd rfl (by omega)
                 obtain⟨x,hx⟩:∃x,x=(vI c xd {S with at_:=p2}).1:=⟨_,rfl⟩
                 obtain⟨S4,hS4⟩:∃x,x=(vI c xd {S with at_:=p2}).2:=⟨_,rfl⟩
                 rw[←hx]at v1;rw[←hS4]at v2
                 have hxb:x<65536:=hx ▸ DE c _ xd (by omega)
                 have w2:IntKind.wrap .i64 ((ld:Int)+(x:Int))=((ld+x:Nat):Int):=by
                  rw[show(ld:Int)+(x:Int)=((ld+x:Nat):Int)by omega];exact vk (by omega)
                 have gf4:=v2.gf
                 have ln:=v2.own.len
                 rw[xy]at ln
                 have frs:=((s3.trans k3).trans s3').trans v3
                 dsimp only
                 have toLoop:∀(h5:H) (e6:Env) (h6:H),((S4.e=0∧S4.out.length<ld+x∧aS AP.A 25 [.aE c.f 0] h4=some (.bS [],h5))∨((S4.e≠0∨¬S4.out.length<ld+x)∧h5=h4))→Lp AP.A [0,1,2,10,14,15] AP.f20L0 [(0,.aE c.f 0),(1,vC ll),(2,vC dl),(10,I (least+vr c.text p1 extra:Nat)),(14,I (ld+x:Nat)),(15,I 0)] h5=some (.exit 2,e6,h6)→
                  look e6 0=.aE c.f 0→look e6 1=vC ll→look e6 2=vC dl→aM (aS AP.A) bD AP.f20L1 (ay [(0,.aE c.f 0),(1,vC ll),(2,vC dl)] [0,1,2]) h=some (.normal,[(0,.aE c.f 0),(1,vC ll),(2,vC dl)],h6):=by
                  intro h5 e6 h6 hcase q6 l0 l1 l2
                  rcases hcase with ⟨g1,g2,g3⟩|⟨g1,rfl⟩
                  · have g2':(S4.out.length:Int)<((ld+x:Nat):Int):=by omega
                    have g1':=tY g1
                    simp only[I,zE]at *
                    simp only[AP.f20L1,go_sem,gf,s1,gf1,c256,UB c1,lo,n0,k1,w1,gf2,s1',gf3,dob,v1,w2,gf4,g1',ln,UC g2',g3,rV,q6,l0,l1,l2]
                  · by_cases g3:S4.e=0
                    · have g2:¬S4.out.length<ld+x:=by
                       rcases g1 with q|q
                       · exact absurd g3 q
                       · exact q
                      have g2':¬(S4.out.length:Int)<((ld+x:Nat):Int):=by omega
                      have g1':=tY g3
                      clear g1
                      simp only[I,zE]at *
                      simp only[AP.f20L1,go_sem,gf,s1,gf1,c256,UB c1,lo,n0,k1,w1,gf2,s1',gf3,dob,v1,w2,gf4,g1',ln,UB g2',rV,q6,l0,l1,l2]
                    · have g1':=tW g3
                      clear g1
                      simp only[I,zE]at *
                      simp only[AP.f20L1,go_sem,gf,s1,gf1,c256,UB c1,lo,n0,k1,w1,gf2,s1',gf3,dob,v1,w2,gf4,g1',ln,rV,q6,l0,l1,l2]
                 by_cases hp2:p2+xd≤8* c.text.size
                 · have egx:vI c xd {S with at_:=p2}=(vr c.text p2 xd,{S with at_:=p2+xd}):=by rw[vI,if_pos hp2]
                   rw[egx]at hx hS4;dsimp only at hx hS4
                   subst hS4
                   rw[←hx]
                   by_cases hbk:S.out.length<ld+x
                   · rw[if_neg (fun q=>by omega)]
                     obtain⟨h5,f1,f2,f3⟩:=xQ v2
                     have he5:(vv 700 {S with at_:=p2+xd}).e=700:=by simp [vv,he]
                     obtain⟨e6,q6,q7,q8,q9⟩:=yZ f2 (vC ll) (vC dl) (least+vr c.text p1 extra) (ld+x) 0 (.inr ⟨by omega,by rw[he5];decide⟩)
                     have step:=toLoop h5 e6 h5 (.inl ⟨he,hbk,f1⟩) q6 q7 q8 q9
                     obtain⟨e',q⟩:=yD f2 (vC ll) (vC dl) (by rw[he5];decide)
                     exact⟨e',h5,ov,_,.inr (td step q),f2,frs.trans f3,he5,by decide⟩
                   · rw[if_pos ⟨hp2,by omega⟩]
                     obtain⟨e6,h6,ov6,S6,q1,q2,q3,q4,q5,q6,q7⟩:=BR (c:=c) (vC ll) (vC dl) (ld+x) (by omega) (least+vr c.text p1 extra) (by omega) (least+vr c.text p1 extra) 0 _ h4 ov (by omega) v2 he (by dsimp only;omega)
                     have step:=toLoop h4 e6 h6 (.inr ⟨.inr hbk,rfl⟩) q1 q2 q3 q4
                     dsimp only at q7
                     cases hcl:zk c.most (ld+x) (least+vr c.text p1 extra) S.out with
                     | error q =>
                       rw[hcl]at q7
                       obtain⟨e',q'⟩:=yD q5 (vC ll) (vC dl) (by rw[q7.1];exact q7.2)
                       exact⟨e',h6,ov6,S6,.inr (td step q'),q5,frs.trans q6,q7⟩
                     | ok o =>
                       rw[hcl]at q7
                       dsimp only at q7
                       subst q7
                       obtain⟨e',h',ov',S',r1,r2,r3,r4⟩:=zu ll dl hll hdl k _ h6 ov6 q5 he (by dsimp only;omega)
                       refine⟨e',h',ov',S', ?_,r2,(frs.trans q6).trans r3,r4⟩
                       rcases r1 with r1|r1
                       · exact .inl (td step r1)
                       · exact .inr (td step r1)
                 · rw[if_neg (fun q=>hp2 q.1)]
                   have he4:S4.e=700:=by rw[hS4,vI,if_neg hp2];simp [vv,he]
                   obtain⟨e6,q6,q7,q8,q9⟩:=yZ v2 (vC ll) (vC dl) (least+vr c.text p1 extra) (ld+x) 0 (.inr ⟨by omega,by rw[he4];decide⟩)
                   have step:=toLoop h4 e6 h4 (.inr ⟨.inl (by rw[he4];decide),rfl⟩) q6 q7 q8 q9
                   obtain⟨e',q⟩:=yD v2 (vC ll) (vC dl) (by rw[he4];decide)
                   exact⟨e',h4,ov,_,.inr (td step q),v2,frs,he4,by decide⟩
           · have eg:vI c extra {S with at_:=p1}=(0,{S with at_:=p1,e:=700}):=by rw[vI,if_neg hp,vv,if_pos he]
             rw[eg]at k1 k2
             dsimp only at k1 k2
             rw[if_neg hp]
             have gf2:=k2.gf
             have w1:IntKind.wrap .i64 ((least:Int)+((0:Nat):Int))=((least:Nat):Int):=by
              rw[show(least:Int)+((0:Nat):Int)=((least:Nat):Int)by omega];exact vk (by omega)
             have n7:((700:Int) !=0)=true:=rfl
             refine⟨[(0,.aE c.f 0),(1,vC ll),(2,vC dl),(10,I least),(58,.bool true)],h2,ov,_,.inl (tF ?_),k2,s3.trans k3,rfl,by decide⟩
             simp only[I,zE]at *
             simp only[AP.f20L1,go_sem,gf,s1,gf1,c256,UB c1,lo,n0,k1,w1,gf2,n7]
theorem Eu {c:FC} {S:SS} {h:H} {ov:AV} (ll dl:List Int) (hll:ll.length<1000) (hdl:dl.length<1000) (st:Ft c S h ov) (he:S.e=0):
 ∃h' ov' S',aS AP.A 20 [.aE c.f 0,vC ll,vC dl] h=some (.bS [],h')∧Ft c S' h' ov'∧FF c h ov h' ov'∧Fin (xJ c.text c.most ll dl (8* c.text.size+1) S.at_ S.out) S':=by
 obtain⟨e',h',ov',S',q1,q2,q3,q4⟩:=zu ll dl hll hdl (8* c.text.size+1) S h ov st he (by omega)
 refine⟨h',ov',S', ?_,q2,q3,q4⟩
 rcases q1 with q1|q1
 · refine tw (fn:=AP.f20) (e:=e') (vs:=[]) rfl rfl rfl ?_ rfl
   simp only[AP.f20,go_sem,rV,q1]
 · refine wc (fn:=AP.f20) (e:=[]) (vs:=[]) rfl rfl rfl ?_ rfl
   simp only[AP.f20,go_sem,rV,q1]
theorem IP (h:H):aS AP.A 32 [] h=some (wJ vK,h):=by
 have b:aZ [] (.cY 1 19 [.int .i64 0] [(0,(.c (.int .i64 16))),(1,(.c (.int .i64 17))),(2,(.c (.int .i64 18))),(3,(.c (.int .i64 0))),(4,(.c (.int .i64 8))),(5,(.c (.int .i64 7))),(6,(.c (.int .i64 9))),(7,(.c (.int .i64 6))),(8,(.c (.int .i64 10))),(9,(.c (.int .i64 5))),(10,(.c (.int .i64 11))),(11,(.c (.int .i64 4))),(12,(.c (.int .i64 12))),(13,(.c (.int .i64 3))),(14,(.c (.int .i64 13))),(15,(.c (.int .i64 2))),(16,(.c (.int .i64 14))),(17,(.c (.int .i64 1))),(18,(.c (.int .i64 15)))])=some (ints vK,fun i=>.aF i 0 19 1):=rfl
 refine tQ (fn:=AP.f32) (h2:=h.eh.alloc (ints vK)) (e:=[(0,.aF h.next 0 19 1)]) (vs:=[.aF h.next 0 19 1]) rfl rfl rfl ?_ rfl ?_
 · have hn:h.eh.next=h.next:=rfl
   simp only[AP.f32,go_sem,b,hn]
 · show snap (h.eh.alloc (ints vK)).get h.next 16 true (.aF h.next 0 19 1)=_
   unfold snap
   rw[if_neg (by omega),H.aX,if_pos (show h.next=h.eh.next from rfl),uG,if_pos (by decide)]
   rw[show((ints vK).drop 0).take (19* 1)=ints vK from rfl,xn];rfl
theorem yt {h:H} {v:AV} {l:List Int} {fl:Nat} (o:nq h v (ints l)) (hf:fl≤h.floor) (hl:l≠[]):snap h.get fl 16 true v=some (wJ l):=by
 rcases o with ⟨_,q⟩|⟨id,rfl,q,h2,_⟩
 · exact absurd (List.map_eq_nil_iff.1 q) hl
 · unfold snap
   rw[if_neg (by omega),q,uG,if_pos (by omega)]
   rw[UK,U4,List.take_length,xn]
   simp [wJ]
def fixF (i:Nat):Int:=if 144≤i∧i<256 then 9 else if 256≤i∧i<280 then 7 else 8
theorem Bd : ∀ (m i : Nat) (h : H) (v : AV), i + m = 288 → nq h v (ints ((List.range i).map fixF)) → h.floor ≤ h.next →
 ∃e' h' v',Lp AP.A [1,2] AP.f22L0 [(1,v),(2,I i)] h=some (.exit 0,e',h')∧look e' 1=v'∧nq h' v' (ints ((List.range 288).map fixF))∧h'.floor=h.floor
 | 0, i, h, v, hm, o, hf => by
   obtain rfl:i=288:=by omega
   refine⟨[(1,v),(2,I 288),(5,.bool false)],h,v,tc ?_,rfl,o,rfl⟩
   have c1:¬(((288:Nat):Int)<288):=by omega
   simp only[I]at *
   simp only[AP.f22L0,go_sem,UB c1]
   rfl
 | m + 1, i, h, v, hm, o, hf => by
   have c1:(i:Int)<288:=by omega
   have w1:IntKind.wrap .i64 ((i:Int)+1)=((i+1:Nat):Int):=vk (n:=i+1) (by omega)
   obtain⟨g,hg⟩:∃g,g=h.alloc [I (fixF i)]:=⟨_,rfl⟩
   have og:nq g v (ints ((List.range i).map fixF)):=o.mono (by rw[hg];simp) fun j hj=>by have:=o.lt hj;rw[hg,H.aX,if_neg (by omega)]
   have hgf:g.floor≤g.next:=by rw[hg];simp;omega
   obtain⟨v',h2,r1,r2,r3,r4,r5,r6⟩:=og.app hgf (z:=8) (I (fixF i)) rfl (by simp [roomy];omega)
   have src:aT g 1 (.aF h.next 0 1 1)=some (1,[I (fixF i)]):=by simp [aT,hg,H.aX]
   have ap:kN g 1 8 v (.aF h.next 0 1 1)=some (v',h2):=by unfold kN;rw[src,uG];exact r1
   have bt:∀e:Env,look e 21=.int .i64 (fixF i)→aZ e (.cY 1 1 [.int .i64 0] [(0,.t 21)])=some ([.int .i64 (fixF i)],fun i=>.aF i 0 1 1):=by
    intro e q;simp only[aZ,UL,U1,rX,q];rfl
   have hr:ints ((List.range i).map fixF)++[I (fixF i)]=ints ((List.range (i+1)).map fixF):=by
    rw[List.range_succ,UX,pB];rfl
   rw[hr]at r2
   have step:aM (aS AP.A) bD AP.f22L0 (ay [(1,v),(2,I i)] [1,2]) h=some (.normal,[(1,v'),(2,I (i+1:Nat))],h2):=by
    clear hr
    by_cases q1:144≤i
    · have d1:(144:Int)≤i:=by omega
      by_cases q2:i<256
      · have d2:(i:Int)<256:=by omega
        have hx:fixF i=9:=by rw[fixF,if_pos ⟨q1,q2⟩]
        rw[hx]at hg bt
        simp only[I]at *
        simp only[AP.f22L0,go_sem,UC c1,UC d1,UC d2]
        rw[bt _ rfl]
        simp only[go_sem,←hg,ap,w1]
      · have d2:¬(i:Int)<256:=by omega
        have d3:(256:Int)≤i:=by omega
        by_cases q3:i<280
        · have d4:(i:Int)<280:=by omega
          have hx:fixF i=7:=by rw[fixF,if_neg (by omega),if_pos ⟨by omega,q3⟩]
          rw[hx]at hg bt
          simp only[I]at *
          simp only[AP.f22L0,go_sem,UC c1,UC d1,UB d2,UC d3,UC d4]
          rw[bt _ rfl]
          simp only[go_sem,←hg,ap,w1]
        · have d4:¬(i:Int)<280:=by omega
          have hx:fixF i=8:=by rw[fixF,if_neg (by omega),if_neg (by omega)]
          rw[hx]at hg bt
          simp only[I]at *
          simp only[AP.f22L0,go_sem,UC c1,UC d1,UB d2,UC d3,UB d4]
          rw[bt _ rfl]
          simp only[go_sem,←hg,ap,w1]
    · have d1:¬(144:Int)≤i:=by omega
      have d3:¬(256:Int)≤i:=by omega
      have hx:fixF i=8:=by rw[fixF,if_neg (by omega),if_neg (by omega)]
      rw[hx]at hg bt
      simp only[I]at *
      simp only[AP.f22L0,go_sem,UC c1,UB d1,UB d3]
      rw[bt _ rfl]
      simp only[go_sem,←hg,ap,w1]
   obtain⟨e',h',v2,s1,s2,s3,s4⟩:=Bd m (i+1) h2 v' (by omega) r2 (by rw[r3];exact u6 hgf r4)
   exact⟨e',h',v2,td step s1,s2,s3,by rw[s4,r3,hg];simp⟩
theorem Hg:(List.range 288).map fixF=wF:=by decide+kernel
theorem Ih (h:H):aS AP.A 22 [] h=some (wJ wF,h):=by
 obtain⟨e',h',v',s1,s2,s3,s4⟩:=Bd 288 0 h.eh .aQ rfl (.inl ⟨rfl,rfl⟩) (uK _)
 have s1':Lp AP.A [1,2] AP.f22L0 [(1,.aQ),(2,I 0)] h.eh=some (.exit 0,e',h'):=s1
 clear s1
 rw[Hg]at s3
 refine tQ (fn:=AP.f22) (h2:=h') (e:=[(0,v')]) (vs:=[v']) rfl rfl rfl ?_ rfl ?_
 · simp only[I]at *
   simp only[AP.f22,go_sem,rV,s1',s2]
 · exact yt s3 (by rw[s4];exact uK _) (by intro e;have:=U2 List.length e;rw[yy]at this;simp at this)
theorem BS (id : Nat) : ∀ (m i : Nat) (h : H), i + m = 30 → h.get id = some (ints (List.replicate i 5 ++ List.replicate m 0)) → h.floor ≤ id →
 ∃e' h',Lp AP.A [1,2] AP.f23L0 [(1,.aF id 0 30 1),(2,I i)] h=some (.exit 0,e',h')∧look e' 1=.aF id 0 30 1∧h'.get id=some (ints (List.replicate 30 5))∧h'.floor=h.floor
 | 0, i, h, hm, hg, hf => by
   obtain rfl:i=30:=by omega
   refine⟨[(1,.aF id 0 30 1),(2,I 30),(5,.bool false)],h,tc ?_,rfl,hg,rfl⟩
   have c1:¬(((30:Nat):Int)<30):=by omega
   simp only[I]at *
   simp only[AP.f23L0,go_sem,UB c1]
   rfl
 | m + 1, i, h, hm, hg, hf => by
   have c1:(i:Int)<30:=by omega
   have w1:IntKind.wrap .i64 ((i:Int)+1)=((i+1:Nat):Int):=vk (n:=i+1) (by omega)
   have ia:fZ 1 (.aF id 0 30 1) (I i)=some (.aE id i):=by simp [fZ,ky (show i<30 by omega)]
   have hset:(ints (List.replicate i 5++List.replicate (m+1) 0)).set i (I 5)=ints (List.replicate (i+1) 5++List.replicate m 0):=by
    have h1:(List.replicate i (5:Int)++List.replicate (m+1) 0).set i 5=List.replicate (i+1) 5++List.replicate m 0:=by
     rw[List.set_append_right _ _ (by simp),UU,Nat.sub_self,List.replicate_succ,List.set_cons_zero,List.replicate_succ',List.append_assoc];rfl
    rw[←h1];simp [ints,List.map_set]
   have hst:tS h id i 1 [I 5] (some (ints (List.replicate i 5++List.replicate (m+1) 0)))=some (h.set id (ints (List.replicate (i+1) 5++List.replicate m 0))):=by
    rw[uk hf (by rw[pC];simp) rfl,hset]
   have step:aM (aS AP.A) bD AP.f23L0 (ay [(1,.aF id 0 30 1),(2,I i)] [1,2]) h=some (.normal,[(1,.aF id 0 30 1),(2,I (i+1:Nat))],h.set id (ints (List.replicate (i+1) 5++List.replicate m 0))):=by
    clear hset
    generalize ints (List.replicate (i+1) 5++List.replicate m 0)=L1 at *
    generalize ints (List.replicate i 5++List.replicate (m+1) 0)=L0 at *
    simp only[I]at *
    simp only[AP.f23L0,go_sem,UC c1,ia,hg,hst,w1]
   obtain⟨e',h',s1,s2,s3,s4⟩:=BS id m (i+1) _ (by omega) (by rw[H.dI,if_pos rfl,hg];rfl) (by simpa using hf)
   exact⟨e',h',td step s1,s2,s3,by rw[s4];simp⟩
theorem JY (h:H):aS AP.A 23 [] h=some (wJ (List.replicate 30 5),h):=by
 obtain⟨h1,hh1⟩:∃g,g=h.eh.alloc (ints (List.replicate 30 0)):=⟨_,rfl⟩
 have hg:h1.get h.next=some (ints (List.replicate 0 5++List.replicate 30 0)):=by rw[hh1,H.aX,if_pos (show h.next=h.eh.next from rfl)];rfl
 obtain⟨e',h',s1,s2,s3,s4⟩:=BS h.next 30 0 h1 rfl hg (by rw[hh1];simp)
 have s1':Lp AP.A [1,2] AP.f23L0 [(1,.aF h.next 0 30 1),(2,I 0)] h1=some (.exit 0,e',h'):=s1
 clear s1
 have bt:∀e:Env,aZ e (.ja 1 8 [.int .i64 0] (.c (.int .i64 30)) (.c (.int .i64 30)))=some (ints (List.replicate 30 0),fun i=>.aF i 0 30 1):=fun _=>rfl
 have hn:h.eh.next=h.next:=rfl
 refine tQ (fn:=AP.f23) (h2:=h') (e:=[(0,.aF h.next 0 30 1)]) (vs:=[.aF h.next 0 30 1]) rfl rfl rfl ?_ rfl ?_
 · simp only[I]at *
   simp only[AP.f23,go_sem,bt,←hh1,hn,rV,s1',s2]
 · exact yt (l:=List.replicate 30 5) (.inr ⟨h.next,rfl,s3,by rw[s4,hh1];simp,by decide⟩) (by rw[s4,hh1];simp) (by decide)
theorem C5 {x:AV} {l:List Int} (hl:l.length<100000) (h:H) (rd:Rd h x (ints l)):∀(q p:List Int),l=p++q→
 (∃e',Lp AP.A [0,3] AP.f67L0 [(0,x),(3,I p.length)] h=some (.exit 0,e',h)∧(ints q).any zS=false)∨(∃e',Lp AP.A [0,3] AP.f67L0 [(0,x),(3,I p.length)] h=some (.ret,e',h)∧look e' 2=.bool false∧(ints q).any zS=true)
 | [], p, hp => by
   have ln:=rd.len
   rw[pC]at ln
   left
   refine⟨[(0,x),(3,I p.length),(15,.bool false)],tc ?_,rfl⟩
   have c1:¬(p.length:Int)<(l.length:Int):=by rw[hp];simp
   simp only[I]at *
   simp only[AP.f67L0,go_sem,ln,UB c1]
 | y :: q, p, hp => by
   have ln:=rd.len
   rw[pC]at ln
   have hlen:l.length=p.length+(q.length+1):=by rw[hp];simp
   have c1:(p.length:Int)<(l.length:Int):=by omega
   have hv:(ints l)[p.length]?=some (I y):=sI (by rw[hp];simp)
   obtain⟨ad,p1,p2⟩:=rd.elem hv
   have p3:=p2 h (fun _ _ q=>q)
   have w1:IntKind.wrap .i64 ((p.length:Int)+1)=(((p++[y]).length:Nat):Int):=by
    rw[vg];exact vk (n:=p.length+1) (by omega)
   have hany:(ints (y::q)).any zS=(zS (I y)||(ints q).any zS):=rfl
   rw[hany]
   by_cases d1:y<0
   · right
     refine⟨[(2,.bool false)],tF ?_,rfl,by simp [zS,I,d1]⟩
     simp only[I]at *
     simp only[AP.f67L0,go_sem,ln,UC c1,p1,p3,UC d1]
   by_cases d2:15<y
   · right
     refine⟨[(2,.bool false)],tF ?_,rfl,by simp [zS,I,d2]⟩
     simp only[I]at *
     simp only[AP.f67L0,go_sem,ln,UC c1,p1,p3,UB d1,UC d2]
   have hb:zS (I y)=false:=by simp [zS,I];omega
   have step:aM (aS AP.A) bD AP.f67L0 (ay [(0,x),(3,I p.length)] [0,3]) h=some (.normal,[(0,x),(3,I (p++[y]).length)],h):=by
    clear hany hb
    generalize (p++[y]).length=B at *
    simp only[I]at *
    simp only[AP.f67L0,go_sem,ln,UC c1,p1,p3,UB d1,UB d2,w1]
   rw[hb,Bool.false_or]
   rcases C5 hl h rd q (p++[y]) (by rw[hp];simp)with ⟨e',r1,r2⟩|⟨e',r1,r2,r3⟩
   · exact .inl ⟨e',td step r1,r2⟩
   · exact .inr ⟨e',td step r1,r2,r3⟩
theorem Po (h:H) (x:AV) (l:List Int) (hl:l.length<100000) (rd:Rd h x (ints l)):aS AP.A 67 [x] h=some (.bool (Bp l),h):=by
 have rd':=rd.mono (vF h)
 have ln:=rd.len
 rw[pC]at ln
 unfold Bp
 by_cases c1:l.length<1
 · refine tQ (fn:=AP.f67) (h2:=h.eh) (e:=[(2,.bool false)]) rfl rfl rfl ?_ rfl (by rw[UB (show¬1≤l.length by omega)];rfl)
   have c1':(l.length:Int)<1:=by omega
   simp only[I]at *
   simp only[AP.f67,go_sem,ln,UC c1']
 have c1':¬(l.length:Int)<1:=by omega
 by_cases c2:288<l.length
 · refine tQ (fn:=AP.f67) (h2:=h.eh) (e:=[(2,.bool false)]) rfl rfl rfl ?_ rfl (by rw[UB (show¬l.length≤288 by omega),UM];rfl)
   have c2':(288:Int)<(l.length:Int):=by omega
   simp only[I]at *
   simp only[AP.f67,go_sem,ln,UB c1',UC c2']
 have c2':¬(288:Int)<(l.length:Int):=by omega
 rw[UC (show 1≤l.length by omega),UC (show l.length≤288 by omega)]
 rcases C5 hl h.eh rd' l [] rfl with ⟨e',r1,r2⟩|⟨e',r1,r2,r3⟩
 · have r1':Lp AP.A [0,3] AP.f67L0 [(0,x),(3,I 0)] h.eh=some (.exit 0,e',h.eh):=r1
   clear r1
   rw[r2]
   refine tQ (fn:=AP.f67) (h2:=h.eh) (e:=[(2,.bool true)]) rfl rfl rfl ?_ rfl rfl
   simp only[I]at *
   simp only[AP.f67,go_sem,ln,UB c1',UB c2',rV,r1']
 · have r1':Lp AP.A [0,3] AP.f67L0 [(0,x),(3,I 0)] h.eh=some (.ret,e',h.eh):=r1
   clear r1
   rw[r3]
   refine tQ (fn:=AP.f67) (h2:=h.eh) (e:=e') (vs:=[.bool false]) rfl rfl rfl ?_ (by simp only[AP.f67,cO,na,r2];rfl) rfl
   simp only[I]at *
   simp only[AP.f67,go_sem,ln,UB c1',UB c2',rV,r1']
theorem B6 (p:List Int) (x:Int):∀n:Nat,vS (p++[x]) n=vS p n-(if 1≤x∧x≤n then 2^(n-x.toNat)else 0)
 | 0 => by
   rw[if_neg (by omega)];simp [vS]
 | n + 1 => by
   have e1:vS (p++[x]) (n+1)=vS (p++[x]) n* 2-xY (p++[x]) (n+1):=rfl
   have e2:vS p (n+1)=vS p n* 2-xY p (n+1):=rfl
   rw[e1,e2,B6 p x n,Ak]
   by_cases h1:x=((n+1:Nat):Int)
   · rw[if_neg (by omega),if_pos ⟨by omega,h1⟩,if_pos (by omega)]
     rw[show n+1-x.toNat=0 by omega];simp;omega
   · rw[if_neg (show¬(n+1≠0∧x=((n+1:Nat):Int))from fun q=>h1 q.2)]
     by_cases h2:1≤x∧x≤(n:Int)
     · rw[if_pos h2,if_pos (by omega),show n+1-x.toNat=(n-x.toNat)+1 by omega,Int.pow_succ];omega
     · rw[if_neg h2,if_neg (by omega)];omega
theorem Dg {x : AV} {l : List Int} (hl : l.length < 100000) (hr : xC l) (h : H) (rd : Rd h x (ints l)) : ∀ (q p : List Int), l = p ++ q →
 ∃e',Lp AP.A [0,3,4] AP.f68L0 [(0,x),(3,I (32768-vS p 15)),(4,I p.length)] h=some (.exit 0,e',h)∧look e' 3=I (32768-vS l 15)
 | [], p, hp => by
   rw[UI]at hp;subst hp
   have ln:=rd.len
   rw[pC]at ln
   refine⟨[(0,x),(3,I (32768-vS l 15)),(4,I l.length),(8,.bool false)],tc ?_,rfl⟩
   have c1:¬(l.length:Int)<(l.length:Int):=by omega
   simp only[I]at *
   simp only[AP.f68L0,go_sem,ln,UB c1]
 | y :: q, p, hp => by
   have ln:=rd.len
   rw[pC]at ln
   have hlen:l.length=p.length+(q.length+1):=by rw[hp];simp
   have c1:(p.length:Int)<(l.length:Int):=by omega
   have hv:(ints l)[p.length]?=some (I y):=sI (by rw[hp];simp)
   have hy:=hr y (by rw[hp];simp)
   obtain⟨ad,p1,p2⟩:=rd.elem hv
   have p3:=p2 h (fun _ _ q=>q)
   have w1:IntKind.wrap .i64 ((p.length:Int)+1)=(((p++[y]).length:Nat):Int):=by
    rw[vg];exact vk (n:=p.length+1) (by omega)
   have hsn:=B6 p y 15
   have hbd:=EE (show p.length<100000 by omega) 15
   have step:aM (aS AP.A) bD AP.f68L0 (ay [(0,x),(3,I (32768-vS p 15)),(4,I p.length)] [0,3,4]) h=some (.normal,[(0,x),(3,I (32768-vS (p++[y]) 15)),(4,I (p++[y]).length)],h):=by
    by_cases d1:0<y
    · obtain⟨yn,hyn⟩:∃n:Nat,y=n:=US hy.1
      subst hyn
      rw[if_pos (by omega),U3]at hsn
      have w2:IntKind.wrap .i64 (15-(yn:Int))=((15-yn:Nat):Int):=by rw[show 15-(yn:Int)=((15-yn:Nat):Int)by omega];exact vk (by omega)
      have hp15:2^(15-yn)≤2^15:=UN (by omega) (by omega)
      have s1:o4 .shl .i64 1 ((15-yn:Nat):Int)=some (.int .i64 ((2^(15-yn):Nat):Int)):=by
       have:=yl (a:=1) (s:=15-yn) (by omega) (by omega)
       rw[Nat.one_mul]at this;exact this
      have hpc:((2^(15-yn):Nat):Int)=2^(15-yn):=by simp
      have hpos:(0:Int)≤2^(15-yn):=Int.pow_nonneg (by omega)
      have w3:IntKind.wrap .i64 (32768-vS p 15+((2^(15-yn):Nat):Int))=32768-vS (p++[(yn:Int)]) 15:=by
       rw[show 32768-vS p 15+((2^(15-yn):Nat):Int)=32768-vS (p++[(yn:Int)]) 15 by rw[hsn,hpc];omega]
       refine tC ?_ ?_
       · rw[hsn];rw[←hpc];omega
       · rw[hsn];rw[←hpc];omega
      clear hsn hpc hbd hp15
      generalize (p++[(yn:Int)]).length=B at *
      generalize vS (p++[(yn:Int)]) 15=L2 at *
      generalize vS p 15=L1 at *
      generalize 2^(15-yn)=PW at *
      simp only[I]at *
      simp only[AP.f68L0,go_sem,ln,UC c1,p1,p3,UC d1,w2,s1,w3,w1]
    · rw[if_neg (by omega),Int.sub_zero]at hsn
      rw[hsn]
      clear hsn hbd
      generalize (p++[y]).length=B at *
      simp only[I]at *
      simp only[AP.f68L0,go_sem,ln,UC c1,p1,p3,UB d1,w1]
   obtain⟨e',r1,r2⟩:=Dg hl hr h rd q (p++[y]) (by rw[hp];simp)
   exact⟨e',td step r1,r2⟩
theorem PF (h:H) (x:AV) (l:List Int) (hl:l.length<100000) (hr:xC l) (rd:Rd h x (ints l)):aS AP.A 68 [x] h=some (I (32768-vS l 15),h):=by
 obtain⟨e',r1,r2⟩:=Dg hl hr h.eh (rd.mono (vF h)) l [] rfl
 have r1':Lp AP.A [0,3,4] AP.f68L0 [(0,x),(3,I 0),(4,I 0)] h.eh=some (.exit 0,e',h.eh):=r1
 clear r1
 refine tQ (fn:=AP.f68) (h2:=h.eh) (e:=[(2,I (32768-vS l 15))]) rfl rfl rfl ?_ rfl rfl
 simp only[I]at *
 simp only[AP.f68,go_sem,rV,r1',r2]
theorem BL (h : H) (x : AV) (l : List Int) (hl : l.length < 100000) (rd : Rd h x (ints l)) : aS AP.A 52 [x] h = some (I (vU l), h) := by
 have rd':=rd.mono (vF h)
 have k1:=Po h.eh x l hl rd'
 unfold vU
 by_cases hm:Bp l=true
 · have k2:=PF h.eh x l hl (Db hm) rd'
   rw[hm]at k1 ⊢
   rw[if_neg (by decide)]
   by_cases c1:vS l 15<0
   · rw[if_pos c1]
     have d1:32768<32768-vS l 15:=by omega
     refine tQ (fn:=AP.f52) (h2:=h.eh) (e:=[(2,I 301)]) rfl rfl rfl ?_ rfl rfl
     simp only[I]at *
     simp only[AP.f52,go_sem,k1,k2,UC d1]
   · rw[if_neg c1]
     have d1:¬32768<32768-vS l 15:=by omega
     by_cases c2:0<vS l 15
     · rw[if_pos c2]
       have d2:32768-vS l 15<32768:=by omega
       refine tQ (fn:=AP.f52) (h2:=h.eh) (e:=[(2,I 302)]) rfl rfl rfl ?_ rfl rfl
       simp only[I]at *
       simp only[AP.f52,go_sem,k1,k2,UB d1,UC d2]
     · rw[if_neg c2]
       have d2:¬32768-vS l 15<32768:=by omega
       refine tQ (fn:=AP.f52) (h2:=h.eh) (e:=[(2,I 0)]) rfl rfl rfl ?_ rfl rfl
       simp only[I]at *
       simp only[AP.f52,go_sem,k1,k2,UB d1,UB d2]
 · have hm':Bp l=false:=by simpa using hm
   rw[hm']at k1 ⊢
   rw[if_pos rfl]
   refine tQ (fn:=AP.f52) (h2:=h.eh) (e:=[(2,I 300)]) rfl rfl rfl ?_ rfl rfl
   simp only[I]at *
   simp only[AP.f52,go_sem,k1]
theorem zC {x : AV} {l : List Int} (hl : l.length < 100000) (hr : xC l) (h : H) (rd : Rd h x (ints l)) : ∀ (q p : List Int) (m b s : Int), l = p ++ q → 0 ≤ m → m ≤ p.length → m ≤ s → (m = 0 → s = 0) → (m = 1 → b = s) →
 ∃e' m' b',Lp AP.A [0,3,4,5] AP.f54L0 [(0,x),(3,I m),(4,I b),(5,I p.length)] h=some (.exit 0,e',h)∧look e' 3=I m'∧look e' 4=I b'∧0≤m'∧m'≤FM q s∧(m'=0→FM q s=0)∧(m'=1→b'=FM q s)
 | [], p, m, b, s, hp, h1, h2, h3, h4, h5 => by
   have ln:=rd.len
   rw[pC]at ln
   refine⟨[(0,x),(3,I m),(4,I b),(5,I p.length),(9,.bool false)],m,b,tc ?_,rfl,rfl,h1,h3,h4,h5⟩
   have c1:¬(p.length:Int)<(l.length:Int):=by rw[hp];simp
   simp only[I]at *
   simp only[AP.f54L0,go_sem,ln,UB c1]
 | y :: q, p, m, b, s, hp, h1, h2, h3, h4, h5 => by
   have ln:=rd.len
   rw[pC]at ln
   have hlen:l.length=p.length+(q.length+1):=by rw[hp];simp
   have c1:(p.length:Int)<(l.length:Int):=by omega
   have hv:(ints l)[p.length]?=some (I y):=sI (by rw[hp];simp)
   have hy:=hr y (by rw[hp];simp)
   obtain⟨ad,p1,p2⟩:=rd.elem hv
   have p3:=p2 h (fun _ _ q=>q)
   have w1:IntKind.wrap .i64 ((p.length:Int)+1)=(((p++[y]).length:Nat):Int):=by
    rw[vg];exact vk (n:=p.length+1) (by omega)
   by_cases d1:0<y
   · have w2:IntKind.wrap .i64 (m+1)=m+1:=tC (by omega) (by omega)
     have step:aM (aS AP.A) bD AP.f54L0 (ay [(0,x),(3,I m),(4,I b),(5,I p.length)] [0,3,4,5]) h=some (.normal,[(0,x),(3,I (m+1)),(4,I y),(5,I (p++[y]).length)],h):=by
      generalize hB:(p++[y]).length=B at *
      simp only[I]at *
      simp only[AP.f54L0,go_sem,ln,UC c1,p1,p3,UC d1,w2,w1]
     obtain⟨e',m',b',r1,r2⟩:=zC hl hr h rd q (p++[y]) (m+1) y (s+y) (by rw[hp];simp) (by omega) (by simp;omega) (by omega) (by omega) (by intro e;have:=h4 (by omega);omega)
     exact⟨e',m',b',td step r1,r2⟩
   · have hy0:y=0:=by omega
     have step:aM (aS AP.A) bD AP.f54L0 (ay [(0,x),(3,I m),(4,I b),(5,I p.length)] [0,3,4,5]) h=some (.normal,[(0,x),(3,I m),(4,I b),(5,I (p++[y]).length)],h):=by
      generalize hB:(p++[y]).length=B at *
      simp only[I]at *
      simp only[AP.f54L0,go_sem,ln,UC c1,p1,p3,UB d1,w1]
     obtain⟨e',m',b',r1,r2⟩:=zC hl hr h rd q (p++[y]) m b (s+y) (by rw[hp];simp) h1 (by simp;omega) (by omega) (by intro e;have:=h4 e;omega) (by intro e;have:=h5 e;omega)
     exact⟨e',m',b',td step r1,r2⟩
theorem Jj (h:H) (x:AV) (l:List Int) (hl:l.length<100000) (hr:xC l) (rd:Rd h x (ints l)):aS AP.A 54 [x] h=some (.bool (wU l),h):=by
 obtain⟨e',m',b',r1,r2,r3,r4,r5,r6,r7⟩:=zC hl hr h.eh (rd.mono (vF h)) l [] 0 0 0 rfl (by omega) (by simp) (by omega) (by intro _;rfl) (by omega)
 have r1':Lp AP.A [0,3,4,5] AP.f54L0 [(0,x),(3,I 0),(4,I 0),(5,I 0)] h.eh=some (.exit 0,e',h.eh):=r1
 clear r1
 refine tQ (fn:=AP.f54) (h2:=h.eh) (e:=[(2,.bool (wU l))]) rfl rfl rfl ?_ rfl rfl
 unfold wU
 generalize FM l 0=s at *
 by_cases c0:m'=0
 · have d0:=tY c0
   have hs:s≤1:=by have:=r6 c0;omega
   rw[UC hs]
   simp only[I]at *
   simp only[AP.f54,go_sem,rV,r1',r2,r3,d0]
 have d0:=tW c0
 by_cases c1:m'=1
 · have d1:=tY c1
   have hb:=r7 c1
   by_cases c2:b'=1
   · have d2:=tY c2
     rw[UC (show s≤1 by omega)]
     simp only[I]at *
     simp only[AP.f54,go_sem,rV,r1',r2,r3,d0,d1,d2]
   · have d2:=tW c2
     rw[UB (show¬s≤1 by omega)]
     simp only[I]at *
     simp only[AP.f54,go_sem,rV,r1',r2,r3,d0,d1,d2]
 · have d1:=tW c1
   rw[UB (show¬s≤1 by omega)]
   simp only[I]at *
   simp only[AP.f54,go_sem,rV,r1',r2,r3,d0,d1]
theorem Cm {c:FC} {S:SS} {h:H} {ov:AV} (st:Ft c S h ov) (b:AV) (many times n:Int) (v:AV) (i:Int) (hs:times≤i∨(i<times∧S.e≠0)):
 ∃e',Lp AP.A [0,1,2,7,9,10,11] AP.f53L0 [(0,.aE c.f 0),(1,b),(2,I many),(7,v),(9,I times),(10,I n),(11,I i)] h=some (.exit 3,e',h)∧look e' 0=.aE c.f 0∧look e' 1=b∧look e' 2=I many∧look e' 7=v:=by
 have gf:=st.gf
 refine⟨[(0,.aE c.f 0),(1,b),(2,I many),(7,v),(9,I times),(10,I n),(11,I i),(83,.bool false)],tc ?_,rfl,rfl,rfl,rfl⟩
 rcases hs with hn|⟨hn,he⟩
 · have c1:¬i<times:=by omega
   simp only[I]at *
   simp only[AP.f53L0,go_sem,UB c1]
 · have c2:=tW he
   simp only[I]at *
   simp only[AP.f53L0,go_sem,UC hn,gf,c2]
theorem ER {c:FC} (h0:H) {S:SS} {ov:AV} (he:S.e=0) (b:AV) (many:Int) (n:Int) (times:Nat) (ht:times≤1000):∀(m i:Nat) (acc:List Int) (h:H) (v:AV),i+m=times→Ft c S h ov→FF c h0 ov h ov→nq h v (ints acc)→acc.length<100000+i→(∀j,v.id?=some j→h0.next≤j)→(∀j,(j=c.f∨ov.id?=some j)→j<h0.next)→
 ∃e' h' v',Lp AP.A [0,1,2,7,9,10,11] AP.f53L0 [(0,.aE c.f 0),(1,b),(2,I many),(7,v),(9,I times),(10,I n),(11,I i)] h=some (.exit 3,e',h')∧look e' 0=.aE c.f 0∧look e' 1=b∧look e' 2=I many∧look e' 7=v'∧Ft c S h' ov∧FF c h0 ov h' ov∧nq h' v' (ints (acc++List.replicate m n))∧∀j,v'.id?=some j→h0.next≤j
 | 0, i, acc, h, v, hm, st, fr, o, hal, hid, hlo => by
   obtain⟨e',q1,q2,q3,q4,q5⟩:=Cm st b many times n v i (.inl (by omega))
   exact⟨e',h,v,q1,q2,q3,q4,q5,st,fr,by simpa using o,hid⟩
 | m + 1, i, acc, h, v, hm, st, fr, o, hal, hid, hlo => by
   have gf:=st.gf
   rw[he]at gf
   have c1:(i:Int)<times:=by omega
   have w1:IntKind.wrap .i64 ((i:Int)+1)=((i+1:Nat):Int):=vk (n:=i+1) (by omega)
   obtain⟨g,hg⟩:∃g,g=h.alloc [I n]:=⟨_,rfl⟩
   have al:=st.alloc [I n]
   rw[←hg]at al
   have og:nq g v (ints acc):=o.mono (by rw[hg];simp) fun j hj=>by have:=o.lt hj;rw[hg,H.aX,if_neg (by omega)]
   have hgf:=al.1.nx
   obtain⟨v',h2,r1,r2,r3,r4,r5,r6⟩:=og.app hgf (z:=8) (I n) rfl (by simp [roomy];omega)
   have src:aT g 1 (.aF h.next 0 1 1)=some (1,[I n]):=by simp [aT,hg,H.aX]
   have ap:kN g 1 8 v (.aF h.next 0 1 1)=some (v',h2):=by unfold kN;rw[src,uG];exact r1
   have bt:∀e:Env,look e 87=.int .i64 n→aZ e (.cY 1 1 [.int .i64 0] [(0,.t 87)])=some ([.int .i64 n],fun i=>.aF i 0 1 1):=by
    intro e q;simp only[aZ,UL,U1,rX,q];rfl
   have step:aM (aS AP.A) bD AP.f53L0 (ay [(0,.aE c.f 0),(1,b),(2,I many),(7,v),(9,I times),(10,I n),(11,I i)] [0,1,2,7,9,10,11]) h=some (.normal,[(0,.aE c.f 0),(1,b),(2,I many),(7,v'),(9,I times),(10,I n),(11,I (i+1:Nat))],h2):=by
    simp only[I]at *
    simp only[AP.f53L0,go_sem,UC c1,gf]
    rw[bt _ rfl]
    simp only[go_sem,←hg,ap,w1]
   have frg:=fr.trans al.2
   have st2:Ft c S h2 ov:=al.1.wW r3 r4 fun j hj=>r5 j (fun e=>by have:=hid j e;have:=hlo j hj;omega) (by have:=hlo j hj;have:=frg.nx;omega)
   have fr2:FF c h0 ov h2 ov:=⟨r3.trans frg.fl,u6 frg.nx r4,fun id i1 i2 i4=>by rw[r5 id (fun e=>by have:=hid id e;omega) (by have:=frg.nx;omega)];exact frg.Bi id i1 i2 i4,fun j hj=>.inl hj⟩
   have hr:ints acc++[I n]=ints (acc++[n]):=by rw[pB];rfl
   rw[hr]at r2
   obtain⟨e',h',v2,s1,s2,s3,s4,s5,s6,s7,s8,s9⟩:=ER h0 he b many n times ht m (i+1) (acc++[n]) h2 v' (by omega) st2 fr2 r2 (by simp;omega) (fun j hj=>by rw[r6]at hj;cases hj;exact frg.nx) hlo
   refine⟨e',h',v2,td step s1,s2,s3,s4,s5,s6,s7, ?_,s9⟩
   rw[List.replicate_succ,show acc++n::List.replicate m n=acc++[n]++List.replicate m n by simp]
   exact s8
theorem z6 {c:FC} {S:SS} {h:H} {ov:AV} (st:Ft c S h ov) (b:AV) (many:Nat) {v:AV} {acc:List Int} (o:nq h v (ints acc)) (hs:many≤acc.length∨(acc.length<many∧S.e≠0)):
 ∃e',Lp AP.A [0,1,2,7] AP.f53L1 [(0,.aE c.f 0),(1,b),(2,I many),(7,v)] h=some (.exit 0,e',h)∧look e' 7=v:=by
 have gf:=st.gf
 have ln:=o.len
 rw[pC]at ln
 refine⟨[(0,.aE c.f 0),(1,b),(2,I many),(7,v),(22,.bool false)],tc ?_,rfl⟩
 rcases hs with hs|⟨hs,he⟩
 · have c1:¬(acc.length:Int)<many:=by omega
   simp only[I]at *
   simp only[AP.f53L1,go_sem,ln,UB c1]
 · have c1:(acc.length:Int)<many:=by omega
   have c2:=tW he
   simp only[I]at *
   simp only[AP.f53L1,go_sem,ln,UC c1,gf,c2]
theorem Fx {c : FC} {S2 : SS} {h2 : H} {ov : AV} (h0 : H) (cl : List Int) (many : Nat) (hm : many ≤ 400) {v : AV} {acc : List Int} (st : Ft c S2 h2 ov) (fr : FF c h0 ov h2 ov) (o : nq h2 v (ints acc)) (hal : acc.length < many) (hid : ∀ j, v.id? = some j → h0.next ≤ j) (hlo : ∀ j, (j = c.f ∨ ov.id? = some j) → j < h0.next) (n : Int) (times : Nat) (ht : times ≤ 1000) (he2 : S2.e = 0 ∨ S2.e = 700) (code : aH)
 (hcode:code=(.seq (.seq (.oP [⟨(some 59),.mv (.t 0),none⟩,⟨(some 60),.n8 (.t 59),none⟩,⟨(some 61),.nR 4 (.t 60),none⟩,⟨(some 62),.load false 1 (.t 61),none⟩,⟨(some 63),.bin .eql (.t 62) (.c (.int .i64 0)),none⟩,⟨(some 64),.mv (.t 63),none⟩,⟨(some 65),.mv (.t 7),(some (64,true))⟩,⟨(some 66),.len false (.t 65),(some (64,true))⟩,⟨(some 67),.mv (.t 9),(some (64,true))⟩,⟨(some 68),.bin .add (.t 66) (.t 67),(some (64,true))⟩,⟨(some 69),.mv (.t 2),(some (64,true))⟩,⟨(some 70),.bin .gtr (.t 68) (.t 69),(some (64,true))⟩,⟨(some 71),.pick (.t 64) (.t 70) (.c (.bool false)),none⟩] [0,1,2,7,9,10,71]) (.cond (.t 71) (.oP [⟨(some 72),.mv (.t 0),none⟩,⟨(some 73),.call (.c (.fn 25 [] [])) [(.t 72)],none⟩] [0,1,2,7,9,10]) (.skip) [0,1,2,7,9,10])) (.seq (.oP [⟨(some 11),.mv (.c (.int .i64 0)),none⟩] [0,1,2,7,9,10,11]) (.block 3 (.loop [0,1,2,7,9,10,11] AP.f53L0) [0,1,2,7])))):
 ∃ h3 S3 v3, aM (aS AP.A) bD code [(0, .aE c.f 0), (1, vC cl), (2, I many), (7, v), (9, I times), (10, I n)] h2 = some (.normal, [(0, .aE c.f 0), (1, vC cl), (2, I many), (7, v3)], h3) ∧ Ft c S3 h3 ov ∧ FF c h0 ov h3 ov ∧
   ((S2.e=0∧acc.length+times≤many∧S3=S2∧nq h3 v3 (ints (acc++List.replicate times n))∧∀j,v3.id?=some j→h0.next≤j)∨((S2.e≠0∨many<acc.length+times)∧S3.e=700∧v3=v∧nq h3 v (ints acc))):=by
 have gf:=st.gf
 have ln:=o.len
 rw[pC]at ln
 subst hcode
 have w1:IntKind.wrap .i64 ((acc.length:Int)+times)=((acc.length+times:Nat):Int):=by rw[show(acc.length:Int)+times=((acc.length+times:Nat):Int)by omega];exact vk (by omega)
 by_cases he:S2.e=0
 · have ce:=tY he
   by_cases hgt:many<acc.length+times
   · have d1:(many:Int)<((acc.length+times:Nat):Int):=by omega
     obtain⟨h3,f1,f2,f3⟩:=xQ st
     have he3:(vv 700 S2).e=700:=by simp [vv,he]
     have hs:(times:Int)≤0∨((0:Int)<times∧(vv 700 S2).e≠0):=by
      by_cases q:0<times
      · exact .inr ⟨by omega,by rw[he3];decide⟩
      · exact .inl (by omega)
     obtain⟨e',q1,q2,q3,q4,q5⟩:=Cm f2 (vC cl) many times n v 0 hs
     have o3:nq h3 v (ints acc):=o.mono f3.fl fun j hj=>f3.Bi j (o.lt hj) (fun e=>by have:=hid j hj;have:=hlo j (.inl e);omega) (fun e=>by have:=hid j hj;have:=hlo j (.inr e);omega)
     refine⟨h3,vv 700 S2,v, ?_,f2,fr.trans f3,.inr ⟨.inr hgt,he3,rfl,o3⟩⟩
     simp only[I]at *
     simp only[go_sem,gf,ce,ln,w1,UC d1,f1,rV,q1,q2,q3,q4,q5]
   · have d1:¬(many:Int)<((acc.length+times:Nat):Int):=by omega
     obtain⟨e',h3,v3,q1,q2,q3,q4,q5,q6,q7,q8,q9⟩:=ER h0 he (vC cl) many n times ht times 0 acc h2 v (by omega) st fr o (by omega) hid hlo
     have q1':Lp AP.A [0,1,2,7,9,10,11] AP.f53L0 [(0,.aE c.f 0),(1,vC cl),(2,I many),(7,v),(9,I times),(10,I n),(11,I 0)] h2=some (.exit 3,e',h3):=q1
     clear q1
     refine⟨h3,S2,v3, ?_,q6,q7,.inl ⟨he,by omega,rfl,q8,q9⟩⟩
     simp only[I]at *
     simp only[go_sem,gf,ce,ln,w1,UB d1,rV,q1',q2,q3,q4,q5]
 · have ce:=tW he
   have he3:S2.e=700:=by rcases he2 with q|q;exact absurd q he;exact q
   have hs:(times:Int)≤0∨((0:Int)<times∧S2.e≠0):=by
    by_cases q:0<times
    · exact .inr ⟨by omega,he⟩
    · exact .inl (by omega)
   obtain⟨e',q1,q2,q3,q4,q5⟩:=Cm st (vC cl) many times n v 0 hs
   refine⟨h2,S2,v, ?_,st,fr,.inr ⟨.inl he,he3,rfl,o⟩⟩
   simp only[I]at *
   simp only[go_sem,gf,ce,ln,w1,rV,q1,q2,q3,q4,q5]
theorem BT {c : FC} (h0 : H) (cl : List Int) (hcl : cl.length < 1000) (many : Nat) (hm : many ≤ 400) : ∀ (f : Nat) (acc : List Int) (S : SS) (h : H) (ov v : AV), Ft c S h ov → S.e = 0 → 8 * c.text.size < S.at_ + f → FF c h0 ov h ov → nq h v (ints acc) → acc.length ≤ many → (∀ j, v.id? = some j → h0.next ≤ j) → (∀ j, (j = c.f ∨ ov.id? = some j) → j < h0.next) →
 ∃ h' S', Ft c S' h' ov ∧ FF c h0 ov h' ov ∧ match vW c.text cl many f acc S.at_ with
   |some (L,p)=>S'={S with at_:=p}∧L.length=many∧∃e' v',Lp AP.A [0,1,2,7] AP.f53L1 [(0,.aE c.f 0),(1,vC cl),(2,I many),(7,v)] h=some (.exit 0,e',h')∧look e' 7=v'∧nq h' v' (ints L)∧∀j,v'.id?=some j→h0.next≤j
   |none=>S'.e=700∧((∃e' v',Lp AP.A [0,1,2,7] AP.f53L1 [(0,.aE c.f 0),(1,vC cl),(2,I many),(7,v)] h=some (.exit 0,e',h')∧look e' 7=v')∨∃e',Lp AP.A [0,1,2,7] AP.f53L1 [(0,.aE c.f 0),(1,vC cl),(2,I many),(7,v)] h=some (.ret,e',h')∧look e' 6=.aQ)
 |0,acc,S,h,ov,v,st,he,hk,fr,oa,hal,hid,hlo=>by have:=st.wX;omega
 | f + 1, acc, S, h, ov, v, st, he, hk, fr, oa, hal, hid, hlo => by
   by_cases hlt:acc.length<many
   · rw [vW, if_pos hlt]
     have gf:=st.gf
     rw[he]at gf
     have ln:=oa.len
     rw[pC]at ln
     have c1:(acc.length:Int)<many:=by omega
     obtain⟨h1,S1,y,s1,s2,s3,s4⟩:=AN cl hcl st he
     have gf1:=s2.gf
     cases hz:xU c.text cl 15 1 0 S.at_ with
     | none =>
       rw[hz]at s4
       obtain⟨s4,s5⟩:=s4
       have ce:(S1.e !=0)=true:=ua (by rw[s4];decide)
       refine⟨h1,S1,s2,fr.trans s3,s4,.inr ⟨[(6,.aQ)],tF ?_,rfl⟩⟩
       simp only[I]at *
       simp only[AP.f53L1,go_sem,ln,UC c1,gf,s1,gf1,ce]
     | some yp =>
       obtain⟨z,p1⟩:=yp
       rw[hz]at s4
       obtain⟨s4,s5⟩:=s4
       subst s5 s4
       have zb:=xN hz
       dsimp only at gf1 ⊢
       rw[he]at gf1
       have fr1:=fr.trans s3
       have hneq:∀i,v.id?=some i→i≠c.f∧ov.id?≠some i:=fun i hi=>by
        have:=hid i hi
        exact⟨fun e=>by have:=hlo i (.inl e);omega,fun e=>by have:=hlo i (.inr e);omega⟩
       have oa1:nq h1 v (ints acc):=oa.mono s3.fl fun i hi=>s3.Bi i (oa.lt hi) (hneq i hi).1 (hneq i hi).2
       have ln1:=oa1.len
       rw[pC]at ln1
       have fin:∀(n:Int) (times:Nat) (h2:H) (S2:SS),times≤1000→Ft c S2 h2 ov→FF c h0 ov h2 ov→nq h2 v (ints acc)→(S2.e=0∨S2.e=700)→(∀code h3 v3,code=(aH.seq (.seq (.oP [⟨(some 59),.mv (.t 0),none⟩,⟨(some 60),.n8 (.t 59),none⟩,⟨(some 61),.nR 4 (.t 60),none⟩,⟨(some 62),.load false 1 (.t 61),none⟩,⟨(some 63),.bin .eql (.t 62) (.c (.int .i64 0)),none⟩,⟨(some 64),.mv (.t 63),none⟩,⟨(some 65),.mv (.t 7),(some (64,true))⟩,⟨(some 66),.len false (.t 65),(some (64,true))⟩,⟨(some 67),.mv (.t 9),(some (64,true))⟩,⟨(some 68),.bin .add (.t 66) (.t 67),(some (64,true))⟩,⟨(some 69),.mv (.t 2),(some (64,true))⟩,⟨(some 70),.bin .gtr (.t 68) (.t 69),(some (64,true))⟩,⟨(some 71),.pick (.t 64) (.t 70) (.c (.bool false)),none⟩] [0,1,2,7,9,10,71]) (.cond (.t 71) (.oP [⟨(some 72),.mv (.t 0),none⟩,⟨(some 73),.call (.c (.fn 25 [] [])) [(.t 72)],none⟩] [0,1,2,7,9,10]) (.skip) [0,1,2,7,9,10])) (.seq (.oP [⟨(some 11),.mv (.c (.int .i64 0)),none⟩] [0,1,2,7,9,10,11]) (.block 3 (.loop [0,1,2,7,9,10,11] AP.f53L0) [0,1,2,7])))→aM (aS AP.A) bD code [(0,.aE c.f 0),(1,vC cl),(2,I many),(7,v),(9,I times),(10,I n)] h2=some (.normal,[(0,.aE c.f 0),(1,vC cl),(2,I many),(7,v3)],h3)→
        aM (aS AP.A) bD AP.f53L1 (ay [(0,.aE c.f 0),(1,vC cl),(2,I many),(7,v)] [0,1,2,7]) h=some (.normal,[(0,.aE c.f 0),(1,vC cl),(2,I many),(7,v3)],h3))→
        (match wg c.text y acc p1 with|some q=>S2={S with at_:=q.2.2}∧n=q.1∧times=q.2.1∧p1≤q.2.2|none=>S2.e=700)→
        ∃ h' S', Ft c S' h' ov ∧ FF c h0 ov h' ov ∧ match (match wg c.text y acc p1 with | none => none | some (n, times, p2) => vW c.text cl many f (acc ++ List.replicate times n) p2) with
          |some (L,p)=>S'={S with at_:=p}∧L.length=many∧∃e' v',Lp AP.A [0,1,2,7] AP.f53L1 [(0,.aE c.f 0),(1,vC cl),(2,I many),(7,v)] h=some (.exit 0,e',h')∧look e' 7=v'∧nq h' v' (ints L)∧∀j,v'.id?=some j→h0.next≤j
          |none=>S'.e=700∧((∃e' v',Lp AP.A [0,1,2,7] AP.f53L1 [(0,.aE c.f 0),(1,vC cl),(2,I many),(7,v)] h=some (.exit 0,e',h')∧look e' 7=v')∨∃e',Lp AP.A [0,1,2,7] AP.f53L1 [(0,.aE c.f 0),(1,vC cl),(2,I many),(7,v)] h=some (.ret,e',h')∧look e' 6=.aQ):=by
        intro n times h2 S2 ht st2 fr2 o2 he2 hstep hag
        obtain⟨h3,S3,v3,t1,t2,t3,t4⟩:=Fx h0 cl many hm st2 fr2 o2 hlt hid hlo n times ht he2 _ rfl
        have step:=hstep _ h3 v3 rfl t1
        cases ha:wg c.text y acc p1 with
        | none =>
          rw[ha]at hag
          dsimp only at hag ⊢
          rcases t4 with ⟨t5,_⟩|⟨_,t6,t7,t8⟩
          · rw[hag]at t5;exact absurd t5 (by decide)
          · subst t7
            obtain⟨e',q1,q2⟩:=z6 t2 (vC cl) many t8 (.inr ⟨hlt,by rw[t6];decide⟩)
            exact⟨h3,S3,t2,t3,t6,.inl ⟨e',v3,td step q1,q2⟩⟩
        | some q =>
          obtain⟨n2,t2',p2⟩:=q
          rw[ha]at hag
          obtain⟨g1,g2,g3,g4⟩:=hag
          dsimp only at g1 g2 g3 g4 ⊢
          subst g1 g2 g3
          have hle2:=st2.wX
          dsimp only at hle2
          rcases t4 with ⟨t5,t6,t7,t8,t9⟩|⟨t5,t6,t7,t8⟩
          · subst t7
            obtain⟨h',S',r1,r2,r3⟩:=BT h0 cl hcl many hm f (acc++List.replicate times n) _ h3 ov v3 t2 he (by dsimp only;omega) t3 t8 (by simp;omega) t9 hlo
            refine⟨h',S',r1,r2, ?_⟩
            dsimp only at r3
            cases hL:vW c.text cl many f (acc++List.replicate times n) p2 with
            | some q =>
              rw[hL]at r3
              obtain⟨r4,r5,e',v',r6,r7⟩:=r3
              exact⟨r4,r5,e',v',td step r6,r7⟩
            | none =>
              rw[hL]at r3
              obtain⟨r4,r5⟩:=r3
              refine⟨r4, ?_⟩
              rcases r5 with ⟨e',v',r6,r7⟩|⟨e',r6,r7⟩
              · exact .inl ⟨e',v',td step r6,r7⟩
              · exact .inr ⟨e',td step r6,r7⟩
          · have hgt:many<acc.length+times:=by
             rcases t5 with q|q
             · exact absurd he q
             · exact q
            have hnone:vW c.text cl many f (acc++List.replicate times n) p2=none:=by
             obtain⟨f',rfl⟩:∃f',f=f'+1:=⟨f-1,by omega⟩
             rw[vW,if_neg (by simp;omega),if_pos (by simp;omega)]
            rw[hnone]
            dsimp only
            subst t7
            obtain⟨e',q1,q2⟩:=z6 t2 (vC cl) many t8 (.inr ⟨hlt,by rw[t6];decide⟩)
            exact⟨h3,S3,t2,t3,t6,.inl ⟨e',v3,td step q1,q2⟩⟩
       have ne0:((0:Int) !=0)=false:=rfl
       by_cases h16:y=16
       · have d16:=tY h16
         by_cases hn:acc=[]
         · obtain⟨h2,f1,f2,f3⟩:=xQ s2
           have hag:wg c.text y acc p1=none:=by unfold wg;rw[if_pos h16,if_pos hn]
           rw[hag]
           have hz0:((acc.length:Int)==0)=true:=by rw[hn];rfl
           refine⟨h2,_,f2,fr1.trans f3,by simp [vv,he],.inr ⟨[(6,.aQ)],tF ?_,rfl⟩⟩
           simp only[I]at *
           simp only[AP.f53L1,go_sem,ln,UC c1,gf,s1,gf1,ne0,d16,ln1,hz0,f1]
         · have hpos:0<acc.length:=U5.2 hn
           have hz0:((acc.length:Int)==0)=false:=tW (by omega)
           have w2:IntKind.wrap .i64 ((acc.length:Int)-1)=((acc.length-1:Nat):Int):=by
            rw[show(acc.length:Int)-1=((acc.length-1:Nat):Int)by omega];exact vk (by omega)
           have hel:=zM (l:=acc) (i:=acc.length-1) (by omega)
           obtain⟨id,i1,i2,i3⟩:=oa1.elem hel
           obtain⟨h2,k1,k2,k3⟩:=xz s2 2 2 rfl (by omega)
           have hgl:(vI c 2 {S with at_:=p1}).1<4:=by
            unfold vI;split
            · simpa using vX c.text p1 2
            · simp
           have w3:IntKind.wrap .i64 (3+((vI c 2 {S with at_:=p1}).1:Int))=((3+(vI c 2 {S with at_:=p1}).1:Nat):Int):=vk (n:=3+_) (by omega)
           have o2:nq h2 v (ints acc):=oa1.mono k3.fl fun i hi=>k3.Bi i (oa1.lt hi) (hneq i hi).1 (hneq i hi).2
           refine fin (acc.getD (acc.length-1) 0) (3+(vI c 2 {S with at_:=p1}).1) h2 _ (by omega) k2 (fr1.trans k3) o2 (AO c 2 _ (.inl he)) ?_ ?_
           · intro code h3 v3 hc hev
             clear fin i1
             generalize (vI c 2 {S with at_:=p1}).1=G at *
             unfold AP.f53L1
             rw[hc]at hev
             simp only[I]at *
             simp only[rI,nu,pN,sD,go_sem,ln,UC c1,gf,s1,gf1,ne0,d16,ln1,hz0,w2,i2,i3,hel,k1,w3]
             simp only[rI,nu,pN,sD,go_sem]at hev
             simp only[hev,go_sem]
           · by_cases hp:p1+2≤8* c.text.size
             · have hag:wg c.text y acc p1=some (acc.getD (acc.length-1) 0,3+vr c.text p1 2,p1+2):=by unfold wg;rw[if_pos h16,if_neg hn,if_pos hp]
               rw[hag]
               have eg:vI c 2 {S with at_:=p1}=(vr c.text p1 2,{S with at_:=p1+2}):=by rw[vI,if_pos hp]
               rw[eg]
               exact⟨rfl,rfl,rfl,by show p1≤p1+2;omega⟩
             · have hag:wg c.text y acc p1=none:=by unfold wg;rw[if_pos h16,if_neg hn,if_neg hp]
               rw[hag]
               have eg:vI c 2 {S with at_:=p1}=(0,{S with at_:=p1,e:=700}):=by rw[vI,if_neg hp,vv,if_pos he]
               rw[eg]
       · have d16:=tW h16
         by_cases h17:y=17
         · have d17:=tY h17
           obtain⟨h2,k1,k2,k3⟩:=xz s2 3 3 rfl (by omega)
           have hgl:(vI c 3 {S with at_:=p1}).1<8:=by
            unfold vI;split
            · simpa using vX c.text p1 3
            · simp
           have w3:IntKind.wrap .i64 (3+((vI c 3 {S with at_:=p1}).1:Int))=((3+(vI c 3 {S with at_:=p1}).1:Nat):Int):=vk (n:=3+_) (by omega)
           have o2:nq h2 v (ints acc):=oa1.mono k3.fl fun i hi=>k3.Bi i (oa1.lt hi) (hneq i hi).1 (hneq i hi).2
           refine fin 0 (3+(vI c 3 {S with at_:=p1}).1) h2 _ (by omega) k2 (fr1.trans k3) o2 (AO c 3 _ (.inl he)) ?_ ?_
           · intro code h3 v3 hc hev
             clear fin
             generalize (vI c 3 {S with at_:=p1}).1=G at *
             unfold AP.f53L1
             rw[hc]at hev
             simp only[I]at *
             simp only[rI,nu,pN,sD,go_sem,ln,UC c1,gf,s1,gf1,ne0,d16,d17,k1,w3]
             simp only[rI,nu,pN,sD,go_sem]at hev
             simp only[hev,go_sem]
           · by_cases hp:p1+3≤8* c.text.size
             · have hag:wg c.text y acc p1=some (0,3+vr c.text p1 3,p1+3):=by unfold wg;rw[if_neg h16,if_pos h17,if_pos hp]
               rw[hag]
               have eg:vI c 3 {S with at_:=p1}=(vr c.text p1 3,{S with at_:=p1+3}):=by rw[vI,if_pos hp]
               rw[eg]
               exact⟨rfl,rfl,rfl,by show p1≤p1+3;omega⟩
             · have hag:wg c.text y acc p1=none:=by unfold wg;rw[if_neg h16,if_pos h17,if_neg hp]
               rw[hag]
               have eg:vI c 3 {S with at_:=p1}=(0,{S with at_:=p1,e:=700}):=by rw[vI,if_neg hp,vv,if_pos he]
               rw[eg]
         · have d17:=tW h17
           by_cases h18:y=18
           · have d18:=tY h18
             obtain⟨h2,k1,k2,k3⟩:=xz s2 7 7 rfl (by omega)
             have hgl:(vI c 7 {S with at_:=p1}).1<128:=by
              unfold vI;split
              · simpa using vX c.text p1 7
              · simp
             have w3:IntKind.wrap .i64 (11+((vI c 7 {S with at_:=p1}).1:Int))=((11+(vI c 7 {S with at_:=p1}).1:Nat):Int):=vk (n:=11+_) (by omega)
             have o2:nq h2 v (ints acc):=oa1.mono k3.fl fun i hi=>k3.Bi i (oa1.lt hi) (hneq i hi).1 (hneq i hi).2
             refine fin 0 (11+(vI c 7 {S with at_:=p1}).1) h2 _ (by omega) k2 (fr1.trans k3) o2 (AO c 7 _ (.inl he)) ?_ ?_
             · intro code h3 v3 hc hev
               clear fin
               generalize (vI c 7 {S with at_:=p1}).1=G at *
               unfold AP.f53L1
               rw[hc]at hev
               simp only[I]at *
               simp only[rI,nu,pN,sD,go_sem,ln,UC c1,gf,s1,gf1,ne0,d16,d17,d18,k1,w3]
               simp only[rI,nu,pN,sD,go_sem]at hev
               simp only[hev,go_sem]
             · by_cases hp:p1+7≤8* c.text.size
               · have hag:wg c.text y acc p1=some (0,11+vr c.text p1 7,p1+7):=by unfold wg;rw[if_neg h16,if_neg h17,if_pos h18,if_pos hp]
                 rw[hag]
                 have eg:vI c 7 {S with at_:=p1}=(vr c.text p1 7,{S with at_:=p1+7}):=by rw[vI,if_pos hp]
                 rw[eg]
                 exact⟨rfl,rfl,rfl,by show p1≤p1+7;omega⟩
               · have hag:wg c.text y acc p1=none:=by unfold wg;rw[if_neg h16,if_neg h17,if_pos h18,if_neg hp]
                 rw[hag]
                 have eg:vI c 7 {S with at_:=p1}=(0,{S with at_:=p1,e:=700}):=by rw[vI,if_neg hp,vv,if_pos he]
                 rw[eg]
           · have d18:=tW h18
             have hag:wg c.text y acc p1=some (y,1,p1):=by unfold wg;rw[if_neg h16,if_neg h17,if_neg h18]
             refine fin y 1 h1 _ (by omega) s2 fr1 oa1 (.inl he) ?_ (by rw[hag];exact⟨rfl,rfl,rfl,uK _⟩)
             intro code h3 v3 hc hev
             clear fin hag
             unfold AP.f53L1
             rw[hc]at hev
             have hev':aM (aS AP.A) bD _ [(0,.aE c.f 0),(1,vC cl),(2,I many),(7,v),(9,I 1),(10,I y)] h1=_:=hev
             clear hev
             simp only[I]at *
             simp only[rI,nu,pN,sD,go_sem,ln,UC c1,gf,s1,gf1,ne0,d16,d17,d18]
             simp only[rI,nu,pN,sD,go_sem,ln,UC c1,gf,s1,gf1,ne0,d16,d17,d18]at hev'
             simp only[hev',go_sem]
   · have heq:acc.length=many:=by omega
     obtain⟨e',q1,q2⟩:=z6 st (vC cl) many oa (.inl (by omega))
     refine⟨h,S,st,fr, ?_⟩
     rw[vW,if_neg hlt,if_neg (by omega)]
     exact⟨rfl,heq,e',v,q1,q2,oa,hid⟩
def D5 (c:FC):SC:=⟨0,0,c.text,c.most⟩
theorem J6 (c:FC) (n:Nat) (S:SS):vI c n S=vt (D5 c) n S:=(J5 (D5 c) c rfl n S).symm
theorem CS {c : FC} (a : Nat) (many : Nat) (hmany : many ≤ 19) (m2 m3 : AV) : ∀ (q p o : List Int) (S : SS) (h : H) (ov : AV), vK.take many = p ++ q → Ft c S h ov → ov.id? ≠ some a → a ≠ c.f → h.get a = some (ints o) → o.length = 19 → h.floor ≤ a →
 ∃ e' h', Lp AP.A [0, 2, 3, 4, 5, 6, 7] AP.f24L0 [(0, .aE c.f 0), (2, m2), (3, m3), (4, I many), (5, .aF a 0 19 1), (6, wJ vK), (7, I p.length)] h = some (.exit 0, e', h') ∧ look e' 0 = .aE c.f 0 ∧ look e' 2 = m2 ∧ look e' 3 = m3 ∧ look e' 5 = .aF a 0 19 1 ∧
   Ft c (yd (D5 c) q o S).2 h' ov∧h'.get a=some (ints (yd (D5 c) q o S).1)∧h'.floor=h.floor∧h.next≤h'.next∧∀i,i<h.next→i≠c.f→ov.id?≠some i→i≠a→h'.get i=h.get i
 | [], p, o, S, h, ov, hp, st, hoa, hac, hg, ho, hf => by
   have hlen:p.length=many:=by
    have:=U2 List.length hp
    rw[List.length_take,UI]at this
    have h2:vK.length=19:=rfl
    omega
   refine⟨[(0,.aE c.f 0),(2,m2),(3,m3),(4,I many),(5,.aF a 0 19 1),(6,wJ vK),(7,I p.length),(37,.bool false)],h,tc ?_,rfl,rfl,rfl,rfl,st,hg,rfl,uK _,fun _ _ _ _ _=>rfl⟩
   have c1:¬(p.length:Int)<(many:Int):=by omega
   simp only[I]at *
   simp only[AP.f24L0,go_sem,UB c1]
 | s :: q, p, o, S, h, ov, hp, st, hoa, hac, hg, ho, hf => by
   have h2l:vK.length=19:=rfl
   have hlen:p.length+(q.length+1)=many:=by
    have:=U2 List.length hp
    rw[List.length_take,vg,UD]at this
    omega
   have c1:(p.length:Int)<(many:Int):=by omega
   have hsm:s∈vK:=List.mem_of_mem_take (i:=many) (by rw[hp];simp)
   have hs:=Dc s hsm
   obtain⟨sn,hsn⟩:∃n:Nat,s=n:=US hs.1
   subst hsn
   have hv0:vK[p.length]?=some (sn:Int):=by
    have:(vK.take many)[p.length]?=some (sn:Int):=by rw[hp];simp
    rw[u9]at this
    split at this
    · exact this
    · cases this
   have hv:(ints vK)[p.length]?=some (I sn):=sI hv0
   have ia:fZ 1 (wJ vK) (I p.length)=some (.aL (ints vK) p.length):=by
    have:=ky (show p.length<vK.length by omega)
    simp only[fZ,wJ,if_true,this,uG,uP,U4]
   obtain⟨h1,k1,k2,k3⟩:=xz st 3 3 rfl (by omega)
   rw[J6]at k1 k2
   have hal:a<h.next:=h.lt _ _ hg
   have hg1:h1.get a=some (ints o):=by rw[k3.Bi a hal hac hoa];exact hg
   have a1:fZ 1 (.aF a 0 19 1) (I sn)=some (.aE a sn):=by simp [fZ,ky (show sn<19 by omega)]
   have hset:(ints o).set sn (I ((vt (D5 c) 3 S).1:Nat))=ints (o.set sn ((vt (D5 c) 3 S).1:Nat)):=by simp [ints,List.map_set]
   have hst:tS h1 a sn 1 [I ((vt (D5 c) 3 S).1:Nat)] (some (ints o))=some (h1.set a (ints (o.set sn ((vt (D5 c) 3 S).1:Nat)))):=by
    rw[uk (by rw[k3.fl];exact hf) (by rw[pC];omega) rfl,hset]
   have w2:IntKind.wrap .i64 ((p.length:Int)+1)=(((p++[(sn:Int)]).length:Nat):Int):=by
    rw[vg];exact vk (n:=p.length+1) (by omega)
   have step:aM (aS AP.A) bD AP.f24L0 (ay [(0,.aE c.f 0),(2,m2),(3,m3),(4,I many),(5,.aF a 0 19 1),(6,wJ vK),(7,I p.length)] [0,2,3,4,5,6,7]) h=some (.normal,[(0,.aE c.f 0),(2,m2),(3,m3),(4,I many),(5,.aF a 0 19 1),(6,wJ vK),(7,I (p++[(sn:Int)]).length)],h1.set a (ints (o.set sn ((vt (D5 c) 3 S).1:Nat)))):=by
    clear hset
    generalize ints (o.set sn ((vt (D5 c) 3 S).1:Nat))=W at *
    generalize (p++[(sn:Int)]).length=B at *
    generalize (vt (D5 c) 3 S).1=G at *
    generalize ints o=OO at *
    generalize wJ vK=RO at *
    unfold AP.f24L0
    refine uh (e1:=[(0,.aE c.f 0),(2,m2),(3,m3),(4,I many),(5,.aF a 0 19 1),(6,RO),(7,I p.length)]) (h1:=h) ?_ ?_
    · simp only[I]at *
      simp only[go_sem,UC c1]
    refine uh (e1:=[(0,.aE c.f 0),(2,m2),(3,m3),(4,I many),(5,.aF a 0 19 1),(6,RO),(7,I p.length)]) (h1:=h1.set a W) ?_ ?_
    · rw[nu,Dp (e':=[(47,.aE a sn),(46,I G),(45,.aE c.f 0),(44,I sn),(43,.aL (ints vK) p.length),(42,I p.length),(41,RO),(40,.aF a 0 19 1),(0,.aE c.f 0),(2,m2),(3,m3),(4,I many),(5,.aF a 0 19 1),(6,RO),(7,I p.length)]) (h':=h1.set a W) (gs:=[h,h1,h1.set a W])]
      · simp only[go_sem]
      · simp only[I]at *
        simp only[yO,AR,AQ,AX,AW,cf.aP,go_sem,ia,hv,k1,a1,hg1,hst]
      · refine yS (fun k hk=> ?_) rfl
        obtain rfl:k=1:=by simpa using hk
        refine yR (o:=⟨some 44,.load false 1 (.t 43),none⟩) (g:=h1) (h':=h1) (d:=44) (u:=I sn) rfl rfl rfl rfl ?_ ?_
        · simp only[ai,go_sem,hv]
        · simp only[go_sem,I,Bq]
    · simp only[I]at *
      simp only[go_sem,w2]
   have st2:Ft c (vt (D5 c) 3 S).2 (h1.set a (ints (o.set sn ((vt (D5 c) 3 S).1:Nat)))) ov:=k2.wW (by simp) (by simp) fun i hi=>by
    rw[H.dI,if_neg]
    rintro rfl
    rcases hi with hi|hi
    · exact hac hi
    · exact hoa hi
   obtain⟨e',h',q1,q2,q3,q4,q5,q6,q7,q8,q9,q10⟩:=CS a many hmany m2 m3 q (p++[(sn:Int)]) (o.set sn ((vt (D5 c) 3 S).1:Nat)) _ _ ov (by rw[hp];simp) st2 hoa hac (by rw[H.dI,if_pos rfl,hg1];rfl) (by simpa using ho) (by simp [k3.fl];exact hf)
   refine⟨e',h',td step q1,q2,q3,q4,q5, ?_, ?_,by rw[q8];simp [k3.fl],by have:=k3.nx;simp at q9;omega,fun i i1 i2 i4 i5=> ?_⟩
   · rw[yd];exact q6
   · rw[yd];exact q7
   · rw[q10 i (by have:=k3.nx;simp;omega) i2 i4 i5,H.dI,if_neg i5,k3.Bi i i1 i2 i4]
theorem Fw {c:FC} {S:SS} {h:H} {ov:AV} (cl:List Int) (hcl:cl.length<1000) (st:Ft c S h ov) (he:S.e=0) (many:Nat) (hm:many≤400):
 ∃ h' S' v, aS AP.A 53 [.aE c.f 0, vC cl, I many] h = some (v, h') ∧ Ft c S' h' ov ∧ FF c h ov h' ov ∧ match vW c.text cl many (8 * c.text.size + 1) [] S.at_ with
   |some (L,p)=>S'={S with at_:=p}∧L.length=many∧nq h' v (ints L)∧∀j,v.id?=some j→h.next≤j
   |none=>S'.e=700:=by
 obtain⟨h',S',q1,q2,q3⟩:=BT h cl hcl many hm (8* c.text.size+1) [] S h ov .aQ st he (by omega) (FF.refl _ _ _) (.inl ⟨rfl,rfl⟩) (by simp) (fun j q=>by cases q) (fun j hj=>st.lt hj)
 have close:∀e' v,Lp AP.A [0,1,2,7] AP.f53L1 [(0,.aE c.f 0),(1,vC cl),(2,I many),(7,.aQ)] h=some (.exit 0,e',h')→look e' 7=v→aS AP.A 53 [.aE c.f 0,vC cl,I many] h=some (v,h'):=by
  intro e' v r1 r2
  refine tw (fn:=AP.f53) (e:=[(6,v)]) (vs:=[v]) rfl rfl rfl ?_ rfl
  simp only[I]at *
  simp only[AP.f53,go_sem,rV,r1,r2]
 cases hL:vW c.text cl many (8* c.text.size+1) [] S.at_ with
 | some q =>
   rw[hL]at q3
   obtain⟨r1,r2,e',v',r3,r4,r5,r6⟩:=q3
   exact⟨h',S',v',close e' v' r3 r4,q1,q2,r1,r2,r5,r6⟩
 | none =>
   rw[hL]at q3
   obtain⟨r1,⟨e',v',r3,r4⟩|⟨e',r3,r4⟩⟩:=q3
   · exact⟨h',S',v',close e' v' r3 r4,q1,q2,r1⟩
   · refine⟨h',S',.aQ, ?_,q1,q2,r1⟩
     refine tw (fn:=AP.f53) (e:=e') (vs:=[.aQ]) rfl rfl rfl ?_ (by simp only[AP.f53,cO,na,r4];rfl)
     simp only[I]at *
     simp only[AP.f53,go_sem,rV,r3]
theorem Fo (t:ByteArray) (most:Int) (out:List Nat) {p:Nat} (hp:¬p+14≤8* t.size):CD t most p out=.error 700:=by
 unfold CD
 split
 · dsimp only
   split
   · rfl
   · have:∀m,yg t m (p+10)=none:=fun m=>by rw[yg,if_neg (by omega)]
     rw[this]
 · rfl
theorem Fs {c : FC} {S : SS} {h : H} {ov : AV} (st : Ft c S h ov) (he : S.e = 0) :
 ∃h' ov' S',aS AP.A 24 [.aE c.f 0] h=some (.bS [],h')∧Ft c S' h' ov'∧FF c h ov h' ov'∧Fin (CD c.text c.most S.at_ S.out) S':=by
 obtain⟨h1,a1,a2,a3⟩:=xz st 5 5 rfl (by omega)
 obtain⟨h2,b1,b2,b3⟩:=xz a2 5 5 rfl (by omega)
 obtain⟨h3,d1,d2,d3⟩:=xz b2 4 4 rfl (by omega)
 obtain⟨A,hA⟩:∃n,n=(vI c 5 S).1:=⟨_,rfl⟩
 obtain⟨S1,hS1⟩:∃n,n=(vI c 5 S).2:=⟨_,rfl⟩
 rw[←hA]at a1;rw[←hS1]at a2 b1 b2 d1 d2
 obtain⟨B,hB⟩:∃n,n=(vI c 5 S1).1:=⟨_,rfl⟩
 obtain⟨S2,hS2⟩:∃n,n=(vI c 5 S1).2:=⟨_,rfl⟩
 rw[←hB]at b1;rw[←hS2]at b2 d1 d2
 obtain⟨C,hC⟩:∃n,n=(vI c 4 S2).1:=⟨_,rfl⟩
 obtain⟨S3,hS3⟩:∃n,n=(vI c 4 S2).2:=⟨_,rfl⟩
 rw[←hC]at d1;rw[←hS3]at d2
 have g5:∀S,(vI c 5 S).1<32:=fun S=>by
  unfold vI;split
  · simpa using vX c.text S.at_ 5
  · simp
 have hA32:A<32:=hA ▸ g5 S
 have hB32:B<32:=hB ▸ g5 S1
 have hC16:C<16:=by
  rw[hC];unfold vI;split
  · simpa using vX c.text S2.at_ 4
  · simp
 have w1:IntKind.wrap .i64 (257+(A:Int))=((A+257:Nat):Int):=by rw[show 257+(A:Int)=((A+257:Nat):Int)by omega];exact vk (by omega)
 have w2:IntKind.wrap .i64 (1+(B:Int))=((B+1:Nat):Int):=by rw[show 1+(B:Int)=((B+1:Nat):Int)by omega];exact vk (by omega)
 have w3:IntKind.wrap .i64 (4+(C:Int))=((C+4:Nat):Int):=by rw[show 4+(C:Int)=((C+4:Nat):Int)by omega];exact vk (by omega)
 have gf3:=d2.gf
 have he3:S3.e=0∨S3.e=700:=by rw[hS3];exact AO c 4 _ (by rw[hS2];exact AO c 5 _ (by rw[hS1];exact AO c 5 S (.inl he)))
 have fr3:=(a3.trans b3).trans d3
 have bad:(S3.e≠0∨286<A+257∨30<B+1)→∃h' ov' S',aS AP.A 24 [.aE c.f 0] h=some (.bS [],h')∧Ft c S' h' ov'∧FF c h ov h' ov'∧S'.e=700∧(700:Int)≠0:=by
  intro hb
  obtain⟨h4,f1,f2,f3⟩:=xQ d2
  refine⟨h4,ov,vv 700 S3, ?_,f2,fr3.trans f3,by rcases he3 with q|q<;>simp [vv,q],by decide⟩
  refine tw (fn:=AP.f24) (e:=[]) (vs:=[]) rfl rfl rfl ?_ rfl
  by_cases c1:S3.e=0
  · have c1':=tZ c1
    by_cases c2:286<A+257
    · have c2':(286:Int)<((A+257:Nat):Int):=by omega
      simp only[I]at *
      simp only[AP.f24,go_sem,a1,b1,d1,w1,w2,w3,gf3,c1',UC c2',f1]
    · have c2':¬(286:Int)<((A+257:Nat):Int):=by omega
      have c3':(30:Int)<((B+1:Nat):Int):=by
       rcases hb with q|q|q
       · exact absurd c1 q
       · exact absurd q c2
       · omega
      simp only[I]at *
      simp only[AP.f24,go_sem,a1,b1,d1,w1,w2,w3,gf3,c1',UB c2',UC c3',f1]
  · have c1':=ua c1
    simp only[I]at *
    simp only[AP.f24,go_sem,a1,b1,d1,w1,w2,w3,gf3,c1',f1]
 by_cases hp:S.at_+14≤8* c.text.size
 · unfold CD
   have e1:vI c 5 S=(vr c.text S.at_ 5,{S with at_:=S.at_+5}):=by rw[vI,if_pos (by omega)]
   rw[e1]at hA hS1;dsimp only at hA hS1
   have e2:vI c 5 {S with at_:=S.at_+5}=(vr c.text (S.at_+5) 5,{S with at_:=S.at_+5+5}):=by rw[vI,if_pos (by show S.at_+5+5≤_;omega)]
   rw[hS1,e2]at hB hS2;dsimp only at hB hS2
   have e3:vI c 4 {S with at_:=S.at_+5+5}=(vr c.text (S.at_+5+5) 4,{S with at_:=S.at_+5+5+4}):=by rw[vI,if_pos (by show S.at_+5+5+4≤_;omega)]
   rw[hS2,e3]at hC hS3;dsimp only at hC hS3
   rw[if_pos (show S.at_+10≤8* c.text.size by omega)]
   dsimp only
   rw[←hA,←hB]
   by_cases hbig:286<A+257∨30<B+1
   · rw[if_pos hbig];exact bad (.inr hbig)
   rw[if_neg hbig]
   have he30:S3.e=0:=by rw[hS3];exact he
   have hat3:S3.at_=S.at_+14:=by rw[hS3]
   have c1':(S3.e !=0)=false:=tZ he30
   have c2':¬(286:Int)<((A+257:Nat):Int):=by omega
   have c3':¬(30:Int)<((B+1:Nat):Int):=by omega
   have w4:IntKind.wrap .i64 (((A+257:Nat):Int)+((B+1:Nat):Int))=((A+257+(B+1):Nat):Int):=by
    rw[show((A+257:Nat):Int)+((B+1:Nat):Int)=((A+257+(B+1):Nat):Int)by omega];exact vk (by omega)
   obtain⟨a,ha⟩:∃a,a=h3.next:=⟨_,rfl⟩
   obtain⟨g0,hg0⟩:∃g,g=h3.alloc (ints (List.replicate 19 0)):=⟨_,rfl⟩
   have al:=d2.alloc (ints (List.replicate 19 0))
   rw[←hg0]at al
   have hga:g0.get a=some (ints (List.replicate 19 0)):=by rw[hg0,H.aX,if_pos ha]
   have oc:=IP g0
   have bt:∀e:Env,aZ e (.ja 1 8 [.int .i64 0] (.c (.int .i64 19)) (.c (.int .i64 19)))=some (ints (List.replicate 19 0),fun i=>.aF i 0 19 1):=fun _=>rfl
   have hac:a≠c.f:=fun e=>by have:=d2.lt (.inl e);omega
   have hoa:ov.id?≠some a:=fun e=>by have:=d2.lt (.inr e);omega
   obtain⟨e4,h4,l1,l2,l3,l4,l5,l6,l7,l8,l9,l10⟩:=CS (c:=c) a (C+4) (by omega) (I (A+257:Nat)) (I (B+1:Nat)) (vK.take (C+4)) [] (List.replicate 19 0) S3 g0 ov rfl al.1 hoa hac hga (by simp) (by rw[hg0,ha];simp;exact d2.nx)
   have l1':Lp AP.A [0,2,3,4,5,6,7] AP.f24L0 [(0,.aE c.f 0),(2,I (A+257:Nat)),(3,I (B+1:Nat)),(4,I (C+4:Nat)),(5,.aF a 0 19 1),(6,wJ vK),(7,I 0)] g0=some (.exit 0,e4,h4):=l1
   clear l1
   have hn0:g0.next=h3.next+1:=by rw[hg0];simp
   have fr4:FF c h ov h4 ov:=by
    refine⟨by rw[l8,al.2.fl,fr3.fl], ?_,fun id i1 i2 i4=> ?_,fun i hi=>.inl hi⟩
    · have:=fr3.nx;omega
    · have:=fr3.nx
      rw[l10 id (by omega) i2 i4 (by omega),al.2.Bi id (by omega) i2 i4,fr3.Bi id i1 i2 i4]
   obtain⟨cl,hcl⟩:∃cl,cl=(yd (D5 c) (vK.take (C+4)) (List.replicate 19 0) S3).1:=⟨_,rfl⟩
   obtain⟨S4,hS4⟩:∃cl,cl=(yd (D5 c) (vK.take (C+4)) (List.replicate 19 0) S3).2:=⟨_,rfl⟩
   rw[←hS4]at l6;rw[←hcl]at l7
   have hcll:cl.length=19:=by rw[hcl,Cf];simp
   have hol:(vK.take (C+4)).length=C+4:=by rw[List.length_take];show min (C+4) 19=C+4;omega
   have ij:Rd h4 (.aF a 0 19 1) (ints cl):=by
    refine⟨?_,by intro s e;cases e⟩
    simp [aT,l7,hcll,uZ]
   have ck:=BL h4 (.aF a 0 19 1) cl (by omega) ij
   have bk:=zo h4 (.aF a 0 19 1) cl (by omega) ij
   have gf4:=l6.gf
   have he4:S4.e=0∨S4.e=700:=by rw[hS4];exact IU _ _ _ _ (.inl he30)
   have bad2:(S4.e≠0∨vU cl≠0)→∃h' ov' S',aS AP.A 24 [.aE c.f 0] h=some (.bS [],h')∧Ft c S' h' ov'∧FF c h ov h' ov'∧S'.e=700∧(700:Int)≠0:=by
    intro hb
    obtain⟨h5,f1,f2,f3⟩:=xQ l6
    refine⟨h5,ov,vv 700 S4, ?_,f2,fr4.trans f3,by rcases he4 with q|q<;>simp [vv,q],by decide⟩
    refine tw (fn:=AP.f24) (e:=[]) (vs:=[]) rfl rfl rfl ?_ rfl
    by_cases q1:S4.e=0
    · have q1':=tZ q1
      have q2':(vU cl !=0)=true:=ua (by rcases hb with q|q;exact absurd q1 q;exact q)
      simp only[I]at *
      simp only[AP.f24,go_sem,a1,b1,d1,w1,w2,w3,gf3,c1',UB c2',UB c3',bt,←hg0,←ha,oc,rV,l1',l2,l3,l4,l5,gf4,q1',ck,q2',f1]
    · have q1':=ua q1
      simp only[I]at *
      simp only[AP.f24,go_sem,a1,b1,d1,w1,w2,w3,gf3,c1',UB c2',UB c3',bt,←hg0,←ha,oc,rV,l1',l2,l3,l4,l5,gf4,q1',f1]
   have hlens:yg c.text (A+257+(B+1)) (S.at_+10)=if S.at_+14+3* (C+4)≤8* c.text.size then(if vU (CF c.text (vK.take (C+4)) (S.at_+14) (List.replicate 19 0))=0 then vW c.text (CF c.text (vK.take (C+4)) (S.at_+14) (List.replicate 19 0)) (A+257+(B+1)) (8* c.text.size+1) [] (S.at_+14+3* (C+4))else none)else none:=by
    have hC':vr c.text (S.at_+10) 4=C:=hC.symm
    unfold yg
    rw[if_pos (show S.at_+10+4≤8* c.text.size by omega)]
    dsimp only
    rw[hC',show S.at_+10+4=S.at_+14 by omega]
   by_cases hp2:S.at_+14+3* (C+4)≤8* c.text.size
   · have ok := DM (D5 c) (vK.take (C + 4)) (List.replicate 19 0) S3 he30 (by rw [hol, hat3]; exact hp2)
     rw[ok]at hcl hS4
     dsimp only at hcl hS4
     rw[hol]at hS4
     rw[hat3]at hcl
     have hcl':cl=CF c.text (vK.take (C+4)) (S.at_+14) (List.replicate 19 0):=hcl
     rw[if_pos hp2,←hcl']at hlens
     by_cases hck:vU cl=0
     · rw [if_pos hck] at hlens
       have he40:S4.e=0:=by rw[hS4];exact he30
       have hat4:S4.at_=S.at_+14+3* (C+4):=by rw[hS4];show S3.at_+3* (C+4)=_;rw[hat3]
       have q1':=tZ he40
       have q2':=tZ hck
       obtain⟨h5,S5,av,m1,m2,m3,m4⟩:=Fw cl (by omega) l6 he40 (A+257+(B+1)) (by omega)
       have gf5:=m2.gf
       rw[hat4]at m4
       rw[hlens]
       cases hL:vW c.text cl (A+257+(B+1)) (8* c.text.size+1) [] (S.at_+14+3* (C+4))with
       | none =>
         rw[hL]at m4
         have q3':(S5.e !=0)=true:=ua (by rw[m4];decide)
         refine⟨h5,ov,S5, ?_,m2,fr4.trans m3,m4,by decide⟩
         refine tw (fn:=AP.f24) (e:=[(0,.aE c.f 0),(2,I (A+257:Nat)),(8,av),(71,.bool true)]) (vs:=[]) rfl rfl rfl ?_ rfl
         simp only[I]at *
         simp only[AP.f24,go_sem,a1,b1,d1,w1,w2,w3,gf3,c1',UB c2',UB c3',bt,←hg0,←ha,oc,rV,l1',l2,l3,l4,l5,gf4,q1',ck,q2',bk,w4,m1,gf5,q3']
       | some q =>
         obtain⟨L,p2⟩:=q
         rw[hL]at m4
         obtain⟨m4,m5,m6,m7⟩:=m4
         have he5:S5.e=0:=by rw[m4];exact he40
         have q3':=tZ he5
         have hrng:xC L:=CY (t:=c.text) (many:=A+257+(B+1)) (p:=S.at_+10) (p2:=p2) (by rw[hlens,hL])
         dsimp only
         obtain⟨id,hav,hgid⟩:∃id,av=.aF id 0 (A+257+(B+1)) 1∧h5.get id=some (ints L):=by
          rcases m6 with ⟨_,q⟩|⟨id,q1,q2,_⟩
          · have:=U2 List.length q;rw[pC,m5,UE]at this;omega
          · exact⟨id,by rw[q1,pC,m5],q2⟩
         have hil:(ints L).length=A+257+(B+1):=by rw[pC,m5]
         have s1:=Dr (h:=h5) (k:=A+257) hgid hil (uK _) (by omega)
         have s2:=Fj (h:=h5) (k:=A+257) hgid hil (by omega)
         rw[show A+257+(B+1)-(A+257)=B+1 by omega]at s2
         rw[←hav]at s1 s2
         obtain⟨la,hla⟩:∃x,x=L.take (A+257):=⟨_,rfl⟩
         obtain⟨lb,hlb⟩:∃x,x=L.drop (A+257):=⟨_,rfl⟩
         have hlal:la.length=A+257:=by rw[hla,List.length_take];omega
         have hlbl:lb.length=B+1:=by rw[hlb,List.length_drop];omega
         have ra:Rd h5 (.aF id 0 (A+257) 1) (ints la):=by
          refine⟨?_,by intro s e;cases e⟩
          simp only[aT,if_true,hgid,uG]
          rw[if_pos (by rw[hil];omega),hla];simp [ints,List.map_take];omega
         have rb:Rd h5 (.aF id (A+257) (B+1) 1) (ints lb):=by
          refine⟨?_,by intro s e;cases e⟩
          simp only[aT,if_true,hgid,uG]
          rw[if_pos (by rw[hil];omega),hlb]
          have:(ints (L.drop (A+257))).length=B+1:=by rw[pC,←hlb,hlbl]
          rw[this,ints,ints,←List.map_drop,U4,uZ (by rw[UF,←hlb,hlbl];omega)]
         rw[←hla,←hlb]
         have cka:=BL h5 _ la (by omega) ra
         have ckb:=BL h5 _ lb (by omega) rb
         have hra:xC la:=fun y hy=>hrng y (List.mem_of_mem_take (hla ▸ hy))
         have hrb:xC lb:=fun y hy=>hrng y (List.mem_of_mem_drop (hlb ▸ hy))
         have sgb:=Jj h5 _ lb (by omega) hrb rb
         have mka:=zo h5 _ la (by omega) ra
         have mkb:=zo h5 _ lb (by omega) rb
         have hel0:la.getD 256 0=L.getD 256 0:=by
          rw[hla,List.getD_eq_getElem?_getD,List.getD_eq_getElem?_getD,u9,if_pos (by omega)]
         have hel:=zM (l:=L) (i:=256) (by omega)
         rw[←hel0]at hel
         obtain⟨id2,i1,i2,i3⟩:=m6.elem hel
         have i2':fZ 1 av (I 256)=some (.aE id2 256):=i2
         clear i2
         by_cases hbad:vU la≠0∨la.getD 256 0=0∨(vU lb≠0∧wU lb=false)
         · rw [if_pos hbad]
           obtain⟨h6,f1,f2,f3⟩:=xQ m2
           refine⟨h6,ov,vv 700 S5, ?_,f2,(fr4.trans m3).trans f3,by simp [vv,he5],by decide⟩
           refine tw (fn:=AP.f24) (e:=[]) (vs:=[]) rfl rfl rfl ?_ rfl
           by_cases x1:vU la=0
           · have x1':=tZ x1
             by_cases x2:la.getD 256 0=0
             · have x2':=tY x2
               simp only[I]at *
               simp only[AP.f24,go_sem,a1,b1,d1,w1,w2,w3,gf3,c1',UB c2',UB c3',bt,←hg0,←ha,oc,rV,l1',l2,l3,l4,l5,gf4,q1',ck,q2',bk,w4,m1,gf5,q3',UG,UP,s1,s2,cka,x1',i2',i3,hel,x2',f1]
             · have x2':=tW x2
               obtain⟨x3,x4⟩:vU lb≠0∧wU lb=false:=by
                rcases hbad with q|q|q
                · exact absurd x1 q
                · exact absurd q x2
                · exact q
               have x3':=ua x3
               rw[x4]at sgb
               simp only[I]at *
               simp only[AP.f24,go_sem,a1,b1,d1,w1,w2,w3,gf3,c1',UB c2',UB c3',bt,←hg0,←ha,oc,rV,l1',l2,l3,l4,l5,gf4,q1',ck,q2',bk,w4,m1,gf5,q3',UG,UP,s1,s2,cka,x1',i2',i3,hel,x2',ckb,x3',sgb,f1]
           · have x1':=ua x1
             simp only[I]at *
             simp only[AP.f24,go_sem,a1,b1,d1,w1,w2,w3,gf3,c1',UB c2',UB c3',bt,←hg0,←ha,oc,rV,l1',l2,l3,l4,l5,gf4,q1',ck,q2',bk,w4,m1,gf5,q3',UG,UP,s1,s2,cka,x1',f1]
         · rw [if_neg hbad]
           have x1:vU la=0:=Decidable.byContradiction fun q=>hbad (.inl q)
           have x2:la.getD 256 0≠0:=fun q=>hbad (.inr (.inl q))
           have x1':=tZ x1
           have x2':=tW x2
           obtain⟨h6,ov6,S6,r1,r2,r3,r4⟩:=Eu la lb (by omega) (by omega) m2 he5
           have last:aM (aS AP.A) bD (.iY [0,1,2,3,4,5,6,7,8,9] [⟨(some 99),.mv (.t 0),none⟩,⟨(some 100),.mv (.t 8),none⟩,⟨(some 101),.mv (.t 2),none⟩,⟨(some 102),.sl 1 (.t 100) none (some (.t 101)) none,none⟩,⟨(some 103),.call (.c (.fn 21 [] [])) [(.t 102)],none⟩,⟨(some 104),.mv (.t 8),none⟩,⟨(some 105),.mv (.t 2),none⟩,⟨(some 106),.sl 1 (.t 104) (some (.t 105)) none none,none⟩,⟨(some 107),.call (.c (.fn 21 [] [])) [(.t 106)],none⟩,⟨(some 108),.call (.c (.fn 20 [] [])) [(.t 99),(.t 103),(.t 107)],none⟩] [(7,[0])] []) [(0,.aE c.f 0),(2,I (A+257:Nat)),(8,av)] h5=some (.normal,[],h6):=by
            rw[Dp (e':=[(108,.bS []),(107,vC lb),(106,.aF id (A+257) (B+1) 1),(105,I (A+257:Nat)),(104,av),(103,vC la),(102,.aF id 0 (A+257) 1),(101,I (A+257:Nat)),(100,av),(99,.aE c.f 0),(0,.aE c.f 0),(2,I (A+257:Nat)),(8,av)]) (h':=h6) (gs:=[h5,h5,h5,h6])]
            · simp only[go_sem]
            · simp only[yO,AR,AQ,AX,AW,cf.aP,go_sem,UG,UP,s1,s2,mka,mkb,r1]
            · refine yS (fun k hk=> ?_) rfl
              obtain rfl:k=0:=by simpa using hk
              refine yR (o:=⟨some 106,.sl 1 (.t 104) (some (.t 105)) none none,none⟩) (g:=h5) (h':=h5) (d:=106) (u:=.aF id (A+257) (B+1) 1) rfl rfl rfl rfl ?_ ?_
              · simp only[ai,go_sem,UG,UP,s2]
              · simp only[go_sem,Aj]
           refine⟨h6,ov6,S6, ?_,r2,(fr4.trans m3).trans r3, ?_⟩
           · refine wc (fn:=AP.f24) (e:=[]) (vs:=[]) rfl rfl rfl ?_ rfl
             by_cases x3:vU lb=0
             · have x3':=tZ x3
               simp only[I]at *
               simp only[AP.f24,go_sem,a1,b1,d1,w1,w2,w3,gf3,c1',UB c2',UB c3',bt,←hg0,←ha,oc,rV,l1',l2,l3,l4,l5,gf4,q1',ck,q2',bk,w4,m1,gf5,q3',UG,UP,s1,s2,cka,x1',i2',i3,hel,x2',ckb,x3',last]
             · have x3':=ua x3
               have x4:wU lb=true:=by
                cases hs:wU lb with
                |true=>rfl
                |false=>exact absurd (.inr (.inr ⟨x3,hs⟩)) hbad
               rw[x4]at sgb
               simp only[I]at *
               simp only[AP.f24,go_sem,a1,b1,d1,w1,w2,w3,gf3,c1',UB c2',UB c3',bt,←hg0,←ha,oc,rV,l1',l2,l3,l4,l5,gf4,q1',ck,q2',bk,w4,m1,gf5,q3',UG,UP,s1,s2,cka,x1',i2',i3,hel,x2',ckb,x3',sgb,last]
           · have h1:S5.at_=p2:=by rw[m4]
             have h2:S5.out=S.out:=by rw[m4,hS4,hS3]
             rw[h1,h2]at r4;exact r4
     · rw[if_neg hck]at hlens
       rw[hlens]
       exact bad2 (.inr hck)
   · rw[if_neg hp2]at hlens
     rw[hlens]
     refine bad2 (.inl ?_)
     rw[hS4,Ce (D5 c) _ _ S3 he30 (by rw[hat3];exact hp) (by rw[hol,hat3];show 8* c.text.size<_;omega)];decide
 · rw[Fo c.text c.most S.out hp]
   refine bad (.inl ?_)
   rw[hS3,hS2,hS1]
   unfold vI
   by_cases q1:S.at_+5≤8* c.text.size
   · simp only[if_pos q1]
     by_cases q2:S.at_+5+5≤8* c.text.size
     · simp only[if_pos q2];rw[if_neg (by omega)];simp [vv,he]
     · simp only[if_neg q2,vv,he,if_true];split<;>simp
   · simp only[if_neg q1,vv,he,if_true]
     split
     · split<;>simp
     · simp;split<;>simp
theorem CR {c:FC} {S:SS} {h:H} {ov:AV} (st:Ft c S h ov) (b:Int) (hs:b≠0∨(b=0∧S.e≠0)):
 ∃e',Lp AP.A [7,8] AP.f8L0 [(7,.aE c.f 0),(8,I b)] h=some (.exit 0,e',h)∧look e' 7=.aE c.f 0:=by
 have gf:=st.gf
 refine⟨[(7,.aE c.f 0),(29,.bool false)],tc ?_,rfl⟩
 rcases hs with hb|⟨hb,he⟩
 · have c1:=tW hb
   simp only[I]at *
   simp only[AP.f8L0,go_sem,c1]
 · have c1:=tY hb
   have c2:=tW he
   simp only[I]at *
   simp only[AP.f8L0,go_sem,c1,gf,c2]
theorem CQ {c : FC} : ∀ (f : Nat) (S : SS) (h : H) (ov : AV), Ft c S h ov → S.e = 0 → 8 * c.text.size < S.at_ + f →
 ∃e' h' ov' S',Lp AP.A [7,8] AP.f8L0 [(7,.aE c.f 0),(8,I 0)] h=some (.exit 0,e',h')∧look e' 7=.aE c.f 0∧Ft c S' h' ov'∧FF c h ov h' ov'∧Fin (xw c.text c.most f S.at_ S.out) S'
 |0,S,h,ov,st,he,hk=>by have:=st.wX;omega
 | f + 1, S, h, ov, st, he, hk => by
   have gf:=st.gf
   rw[he]at gf
   obtain⟨h1,a1,a2,a3⟩:=xz st 1 1 rfl (by omega)
   obtain⟨h2,b1,b2,b3⟩:=xz a2 2 2 rfl (by omega)
   obtain⟨A,hA⟩:∃n,n=(vI c 1 S).1:=⟨_,rfl⟩
   obtain⟨S1,hS1⟩:∃n,n=(vI c 1 S).2:=⟨_,rfl⟩
   rw[←hA]at a1;rw[←hS1]at a2 b1 b2
   obtain⟨B,hB⟩:∃n,n=(vI c 2 S1).1:=⟨_,rfl⟩
   obtain⟨S2,hS2⟩:∃n,n=(vI c 2 S1).2:=⟨_,rfl⟩
   rw[←hB]at b1;rw[←hS2]at b2
   have gf2:=b2.gf
   have fr2:=a3.trans b3
   rw[xw]
   unfold yw
   by_cases hp:S.at_+3≤8* c.text.size
   · rw [if_pos hp]
     have e1:vI c 1 S=(vr c.text S.at_ 1,{S with at_:=S.at_+1}):=by rw[vI,if_pos (by omega)]
     rw[e1]at hA hS1;dsimp only at hA hS1
     have e2:vI c 2 {S with at_:=S.at_+1}=(vr c.text (S.at_+1) 2,{S with at_:=S.at_+1+2}):=by rw[vI,if_pos (by show S.at_+1+2≤_;omega)]
     rw[hS1,e2]at hB hS2;dsimp only at hB hS2
     have he2:S2.e=0:=by rw[hS2];exact he
     have hat:S2.at_=S.at_+3:=by rw[hS2]
     have hout:S2.out=S.out:=by rw[hS2]
     have hA2:A<2:=by rw[hA];simpa using vX c.text S.at_ 1
     dsimp only
     rw[←hA,←hB]
     have ce:=tZ he2
     have n0:((0:Int)==0)=true:=rfl
     have z0:((0:Int)==0)=true:=rfl
     have close:∀(r:Rs) (h':H) (ov':AV) (S':SS),aM (aS AP.A) bD AP.f8L0 (ay [(7,.aE c.f 0),(8,I 0)] [7,8]) h=some (.normal,[(7,.aE c.f 0),(8,I A)],h')→Ft c S' h' ov'→FF c h2 ov h' ov'→Fin r S'→(∀q,r=.ok q→S.at_<q.1)→
      ∃e' h' ov' S',Lp AP.A [7,8] AP.f8L0 [(7,.aE c.f 0),(8,I 0)] h=some (.exit 0,e',h')∧look e' 7=.aE c.f 0∧Ft c S' h' ov'∧FF c h ov h' ov'∧Fin (match (match r with| .ok q=>(.ok (A==1,q.1,q.2):Except Int (Bool×Nat×List Nat))| .error k=>.error k)with| .error k=>.error k| .ok (last,p2,o)=>if last then .ok (p2,o)else xw c.text c.most f p2 o) S':=by
      intro r h' ov' S' step q2 q3 q4 q5
      cases r with
      | error k =>
        have hs:(A:Int)≠0∨((A:Int)=0∧S'.e≠0):=by
         by_cases q:(A:Int)=0
         · exact .inr ⟨q,by rw[q4.1];exact q4.2⟩
         · exact .inl q
        obtain⟨e',r1,r2⟩:=CR q2 A hs
        exact⟨e',h',ov',S',td step r1,r2,q2,fr2.trans q3,q4⟩
      | ok q =>
        obtain⟨p2,o⟩:=q
        simp only[Fin]at q4
        dsimp only
        by_cases hA1:A=1
        · have hb:(A==1)=true:=by rw[hA1];rfl
          rw[hb]
          simp only[if_true]
          obtain⟨e',r1,r2⟩:=CR q2 A (.inl (by omega))
          exact⟨e',h',ov',S',td step r1,r2,q2,fr2.trans q3,q4⟩
        · have hA0:A=0:=by omega
          have hb:(A==1)=false:=by rw[hA0];rfl
          rw[hb]
          simp only[uH,vh]
          rw[hA0]at step
          subst q4
          have h5:=q5 (p2,o) rfl
          dsimp only at h5
          obtain⟨e',h'',ov'',S'',r1,r2,r3,r4,r5⟩:=CQ f _ h' ov' q2 rfl (by dsimp only;omega)
          exact⟨e',h'',ov'',S'',td step r1,r2,r3,(fr2.trans q3).trans r4,r5⟩
     by_cases d0:B=0
     · rw [if_pos d0]
       obtain⟨h',ov',S',q1,q2,q3,q4⟩:=Hh b2 he2
       rw[hat,hout]at q4
       have d0':((B:Int)==0)=true:=tY (by omega)
       refine close _ h' ov' S' ?_ q2 q3 q4 (fun q hq=> ?_)
       · simp only[I]at *
         simp only[AP.f8L0,go_sem,gf,a1,b1,gf2,ce,d0',q1]
       · unfold ym at hq
         dsimp only at hq
         split at hq
         · split at hq
           · obtain⟨p2,o⟩:=q
             have:=A6 hq;dsimp only;omega
           · cases hq
         · cases hq
     · rw [if_neg d0]
       have d0':((B:Int)==0)=false:=tW (by omega)
       by_cases d1:B=1
       · rw[if_pos d1]
         have d1':((B:Int)==1)=true:=tY (by omega)
         have f1:=Ih h2
         have m1:=zo h2 (wJ wF) wF (by rw[yy];omega) (xM _ _)
         have f2:=JY h2
         have m2:=zo h2 (wJ (List.replicate 30 5)) (List.replicate 30 5) (by rw[UU];omega) (xM _ _)
         obtain⟨h',ov',S',q1,q2,q3,q4⟩:=Eu wF (List.replicate 30 5) (by rw[yy];omega) (by rw[UU];omega) b2 he2
         rw[hat,hout]at q4
         refine close _ h' ov' S' ?_ q2 q3 q4 (fun q hq=>by obtain⟨p2,o⟩:=q;have:=yK hq;dsimp only;omega)
         generalize vC wF=bf at *
         generalize vC (List.replicate 30 5)=bd at *
         generalize wJ wF=vf at *
         generalize wJ (List.replicate 30 5)=vd at *
         simp only[I]at *
         simp only[AP.f8L0,go_sem,gf,a1,b1,gf2,ce,d0',d1',f1,m1,f2,m2,q1]
       · rw [if_neg d1]
         have d1':((B:Int)==1)=false:=tW (by omega)
         by_cases d2:B=2
         · rw [if_pos d2]
           have d2':((B:Int)==2)=true:=tY (by omega)
           obtain⟨h',ov',S',q1,q2,q3,q4⟩:=Fs b2 he2
           rw[hat,hout]at q4
           refine close _ h' ov' S' ?_ q2 q3 q4 (fun q hq=> ?_)
           · simp only[I]at *
             simp only[AP.f8L0,go_sem,gf,a1,b1,gf2,ce,d0',d1',d2',q1]
           · have hb:yw c.text c.most S.at_ S.out=.ok (vr c.text S.at_ 1==1,q.1,q.2):=by
              unfold yw
              rw[if_pos hp]
              dsimp only
              rw[←hB,if_neg d0,if_neg d1,if_pos d2,hq]
             have:=CL hb
             exact this
         · rw[if_neg d2]
           have d2':((B:Int)==2)=false:=tW (by omega)
           obtain⟨h',q1,q2,q3⟩:=xQ b2
           refine close (.error 700) h' ov _ ?_ q2 q3 ⟨by simp [vv,he2],by decide⟩ (fun q hq=>by cases hq)
           simp only[I]at *
           simp only[AP.f8L0,go_sem,gf,a1,b1,gf2,ce,d0',d1',d2',q1]
   · rw [if_neg hp]
     have he2:S2.e=700:=by
      by_cases q1:S.at_+1≤8* c.text.size
      · have e1:vI c 1 S=(vr c.text S.at_ 1,{S with at_:=S.at_+1}):=by rw[vI,if_pos q1]
        rw[e1]at hS1;dsimp only at hS1
        have e2:vI c 2 S1=(0,{S1 with e:=700}):=by rw[vI,if_neg (by rw[hS1];show¬S.at_+1+2≤_;omega),vv,if_pos (by rw[hS1];exact he)]
        rw[e2]at hS2
        rw[hS2]
      · have e1:vI c 1 S=(0,{S with e:=700}):=by rw[vI,if_neg q1,vv,if_pos he]
        rw[e1]at hS1;dsimp only at hS1
        have e2:vI c 2 S1=(0,S1):=by rw[vI,if_neg (by rw[hS1];show¬S.at_+2≤_;omega),vv,if_neg (by rw[hS1];simp)]
        rw[e2]at hS2
        rw[hS2,hS1]
     have ce:(S2.e !=0)=true:=ua (by rw[he2];decide)
     refine⟨[(7,.aE c.f 0),(8,I A),(9,I B),(38,.bool true)],h2,ov,S2,tc ?_,rfl,b2,fr2,he2,by decide⟩
     simp only[I]at *
     simp only[AP.f8L0,go_sem,gf,a1,b1,gf2,ce]
theorem Fu (h:H) (t:ByteArray) (most:Int) (hs:t.size<1125899906842624):aS AP.A 8 [.str t,I most] h=some (Hm (xL t most),h):=by
 unfold xL
 by_cases c1:most<0
 · rw[if_pos (.inl c1)]
   refine tQ (fn:=AP.f8) (h2:=h.eh) (e:=[(4,.str ⟨#[]⟩),(5,I 0),(6,I 700)]) rfl rfl rfl ?_ rfl rfl
   simp only[I]at *
   simp only[AP.f8,go_sem,UC c1]
 by_cases c2:8192<most
 · rw[if_pos (.inr c2)]
   refine tQ (fn:=AP.f8) (h2:=h.eh) (e:=[(4,.str ⟨#[]⟩),(5,I 0),(6,I 700)]) rfl rfl rfl ?_ rfl rfl
   simp only[I]at *
   simp only[AP.f8,go_sem,UB c1,UC c2]
 rw[if_neg (by omega)]
 obtain⟨h1,hh1⟩:∃g,g=h.eh.alloc [.str t,I 0,.aQ,I most,I 0]:=⟨_,rfl⟩
 have st:Ft ⟨h.next,t,most⟩ ⟨0,[],0⟩ h1 .aQ:=by
  refine⟨?_,.inl ⟨rfl,rfl⟩, ?_,by simp [AV.id?], ?_,hs,by simp,by simp;omega,by show most≤900000;omega⟩
  · rw[hh1,H.aX,if_pos (show h.next=h.eh.next from rfl)];rfl
  · rw[hh1];simp
  · rw[hh1];simp
 obtain⟨e',h3,ov,S,q1,q2,q3,q4,q5⟩:=CQ (8* t.size+1) ⟨0,[],0⟩ h1 .aQ st rfl (by show 8* t.size<0+(8* t.size+1);omega)
 have gf:=q3.gf
 have bx:∀e:Env,look e 19=.agg [.str t,.int .i64 0,.aQ,.int .i64 most,.int .i64 0]→aZ e (.box 5 (.t 19))=some ([.str t,.int .i64 0,.aQ,.int .i64 most,.int .i64 0],fun i=>.aE i 0):=by
  intro e q;simp only[aZ,rX,q];rfl
 have fl1:ei [.str ⟨#[]⟩,.int .i64 0] [(0,1,.str t)]=some [.str t,.int .i64 0]:=rfl
 have fl2:ei [.str ⟨#[]⟩,.int .i64 0,.aQ,.int .i64 0,.int .i64 0] [(0,2,.agg [.str t,.int .i64 0]),(3,1,.int .i64 most)]=some [.str t,.int .i64 0,.aQ,.int .i64 most,.int .i64 0]:=rfl
 have hn:h.eh.next=h.next:=rfl
 dsimp only at q5
 cases hi:xw t most (8* t.size+1) 0 []with
 | error k =>
   rw[hi]at q5
   have c3:(S.e !=0)=true:=ua (by rw[q5.1];exact q5.2)
   have hk:S.e=k:=q5.1
   refine tQ (fn:=AP.f8) (h2:=h3) (e:=[(4,.str ⟨#[]⟩),(5,I 0),(6,I k)]) rfl rfl rfl ?_ rfl rfl
   rw[hk]at gf c3
   simp only[I]at *
   simp only[AP.f8,go_sem,UB c1,UB c2,hn,UL,U1,fl1,fl2]
   rw[bx _ rfl]
   simp only[go_sem,←hh1,hn,rV,q1,q2,gf,c3]
 | ok z =>
   obtain⟨p,o⟩:=z
   rw[hi]at q5
   simp only[Fin]at q5
   have c3:(S.e !=0)=false:=tZ (by rw[q5])
   have hb:=FT q3.own
   subst q5
   dsimp only at gf hb c3
   have hle:=q3.wX
   dsimp only at hle
   have w2:IntKind.wrap .i64 ((p:Int)+7)=((p+7:Nat):Int):=vk (n:=p+7) (by omega)
   have qd:br .quo (.int .i64 ((p+7:Nat):Int)) (.int .i64 8)=some (.int .i64 (((p+7)/8:Nat):Int)):=by
    rw[rK _ _ _ (by omega),show(8:Int)=((8:Nat):Int)from rfl,xr,vk (by omega)]
   refine tQ (fn:=AP.f8) (h2:=h3) (e:=[(4,.str (bytesOf o)),(5,I ((p+7)/8:Nat)),(6,I 0)]) rfl rfl rfl ?_ rfl rfl
   generalize (p+7)/8=P at *
   generalize p+7=P7 at *
   simp only[I]at *
   simp only[AP.f8,go_sem,UB c1,UB c2,hn,UL,U1,fl1,fl2]
   rw[bx _ rfl]
   simp only[go_sem,←hh1,hn,rV,q1,q2,gf,c3,w2,hb,qd]
abbrev E7 (k:Int):Prop:=k=700∨k=701
theorem Cu {t:ByteArray} {most k:Int}:∀{n p:Nat} {out:List Nat},xj t most n p out=.error k→E7 k
 |0,p,out,h=>by cases h
 | n + 1, p, out, h => by
   unfold xj at h
   split at h
   · split at h
     · cases h;exact .inr rfl
     · exact Cu h
   · cases h;exact .inl rfl
theorem E3 {t:ByteArray} {most k:Int} {p:Nat} {out:List Nat} (h:ym t most p out=.error k):E7 k:=by
 unfold ym at h
 dsimp only at h
 split at h
 · split at h
   · exact Cu h
   · cases h;exact .inl rfl
 · cases h;exact .inl rfl
theorem CM {most k:Int} {d:Nat}:∀{n:Nat} {out:List Nat},zk most d n out=.error k→E7 k
 |0,out,h=>by cases h
 | n + 1, out, h => by
   unfold zk at h
   split at h
   · cases h;exact .inr rfl
   · exact CM h
theorem Hc {t : ByteArray} {most k : Int} {dl : List Int} {y p : Nat} {out : List Nat} (h : Ao t most dl y p out = .error k) : E7 k := by
 unfold Ao at h
 split at h
 · cases h;exact .inl rfl
 · split at h
   · split at h
     · cases h;exact .inl rfl
     · split at h
       · cases h;exact .inl rfl
       · split at h
         · split at h
           · cases h
           · rename_i q;cases h;exact CM q
         · cases h;exact .inl rfl
   · cases h;exact .inl rfl
theorem yV {t : ByteArray} {most k : Int} {ll dl : List Int} : ∀ {n p : Nat} {out : List Nat}, xJ t most ll dl n p out = .error k → E7 k
 |0,p,out,h=>by cases h;exact .inl rfl
 | n + 1, p, out, h => by
   unfold xJ at h
   split at h
   · cases h;exact .inl rfl
   · split at h
     · split at h
       · cases h;exact .inr rfl
       · exact yV h
     · split at h
       · cases h
       · split at h
         · exact yV h
         · rename_i q;cases h;exact Hc q
theorem H9 {t : ByteArray} {most k : Int} {p : Nat} {out : List Nat} (h : CD t most p out = .error k) : E7 k := by
 unfold CD at h
 dsimp only at h
 split at h
 · split at h
   · cases h;exact .inl rfl
   · split at h
     · cases h;exact .inl rfl
     · split at h
       · cases h;exact .inl rfl
       · exact yV h
 · cases h;exact .inl rfl
theorem Fk {t : ByteArray} {most k : Int} {p : Nat} {out : List Nat} (h : yw t most p out = .error k) : E7 k := by
 unfold yw at h
 dsimp only at h
 split at h
 · split at h
   · cases h
   · rename_i q
     cases h
     split at q
     · exact E3 q
     · split at q
       · exact yV q
       · split at q
         · exact H9 q
         · cases q;exact .inl rfl
 · cases h;exact .inl rfl
theorem Bf {t:ByteArray} {most k:Int}:∀{n p:Nat} {out:List Nat},xw t most n p out=.error k→E7 k
 | 0, p, out, h => by
   unfold xw at h
   cases h;exact .inl rfl
 | n + 1, p, out, h => by
   unfold xw at h
   split at h
   · rename_i q;cases h;exact Fk q
   · split at h
     · cases h
     · exact Bf h
theorem Av {t:ByteArray} {most k:Int} (h:xL t most=.error k):E7 k:=by
 unfold xL at h
 split at h
 · cases h;exact .inl rfl
 · split at h
   · cases h
   · rename_i q;cases h;exact Bf q
theorem dt {p:Prop} [Decidable p] (h:p):decide p=true:=UC h
theorem df {p:Prop} [Decidable p] (h:¬p):decide p=false:=UB h
theorem S9 {a b:Int} (h:a=b):(a==b)=true:=by simp [h]
theorem Nk {a b:Int} (h:¬a=b):(a==b)=false:=by simp [h]
theorem Py {a b:Int} (h:¬a=b):(a !=b)=true:=by simp [h]
theorem KU {a b:Int} (h:a=b):(a !=b)=false:=by simp [h]
theorem wi {n:Int} (h: -9223372036854775808≤n∧n<9223372036854775808):IntKind.wrap .i64 n=n:=tC h.1 (by omega)
theorem wb {n:Int} (h:0≤n∧n<256):IntKind.wrap .u8 n=n:=by
 simp [IntKind.wrap,IntKind.bits,IntKind.signed];omega
theorem PZ {i:Int} {n:Nat} (h:0≤i∧i<n):di (.int .i64 i) n=some i.toNat:=by
 simp [di,nE,h]
def at_:Nat→aH→aH
 |0,.seq a _=>a
 |0,c=>c
 |n+1,.seq _ b=>at_ n b
 |_+1,c=>c
def FN:Nat→aH→aH
 |0,c=>c
 |n+1,.seq _ b=>FN n b
 |_+1,c=>c
theorem wy (a b:aH):at_ 0 (.seq a b)=a:=rfl
theorem wI (n:Nat) (a b:aH):at_ (n+1) (.seq a b)=at_ n b:=rfl
theorem Cz (c:aH):FN 0 c=c:=rfl
theorem Cy (n:Nat) (a b:aH):FN (n+1) (.seq a b)=FN n b:=rfl
theorem yM {h:H} {id i:Nat} (e:¬i=id):(h.del id).get i=h.get i:=by rw[H.ep,if_neg e]
theorem Ay (h:H):h.eh.next=h.next:=uD rfl rfl
theorem Ar (h:H):h.eh.floor=h.next:=uD rfl rfl
theorem At (h:H) (i:Nat):h.eh.get i=h.get i:=uD rfl rfl
theorem DK (h:H) (i:Nat):(h.del i).next=h.next:=uD rfl rfl
theorem DB (h:H) (i:Nat):(h.del i).floor=h.floor:=uD rfl rfl
theorem vu {h:H} {cs:List AV} {i:Nat} (e:i=h.next):(h.alloc cs).get i=some cs:=by rw[H.aX,if_pos e]
theorem vO {h:H} {cs:List AV} {i:Nat} (e:¬i=h.next):(h.alloc cs).get i=h.get i:=by rw[H.aX,if_neg e]
theorem vH {h:H} {cs:List AV} {id i:Nat} (e:i=id):(h.set id cs).get i=(h.get i).map fun _=>cs:=by rw[H.dI,if_pos e,e]
theorem vA {h:H} {cs:List AV} {id i:Nat} (e:¬i=id):(h.set id cs).get i=h.get i:=by rw[H.dI,if_neg e]
def xo {α:Type} (b:Bool) (x:α):Option α:=if b then some x else none
theorem wM {α:Type} (x:α):xo true x=some x:=rfl
theorem Jo (h:H) (id off n:Nat) (v cs:List AV):tS h id off n v (some cs)=xo (decide (h.floor≤id)&&(decide (v.length=n)&&(decide (off+n≤cs.length)&&AV.aD v))) (h.set id (setFrom cs off v)):=by
 simp only[tS,uG,xo]
 by_cases c:h.floor≤id∧v.length=n∧off+n≤cs.length∧AV.aD v=true
 · rw[if_pos c];obtain⟨c1,c2,c3,c4⟩:=c;simp [c1,c2,c3,c4]
 · rw[if_neg c,if_neg];simpa using c
theorem FH (n:Nat) (cs:List AV) (off:Nat):ij true n cs off=xo (decide (off+n≤cs.length)) (.agg ((cs.drop off).take n)):=by
 simp only[ij,xo,if_true,UH]
theorem Ie (z:List AV):ei z []=some z:=rfl
def Ev (r:List (Nat×Nat×AV)) (p:Option (List AV)):Option (List AV):=p.bind fun z=>ei z r
theorem F8 (r:List (Nat×Nat×AV)) (z:List AV):Ev r (some z)=ei z r:=rfl
theorem Ic (z:List AV) (o n:Nat) (v:AV) (r:List (Nat×Nat×AV)):ei z ((o,n,v)::r)=Ev r (xo (decide (v.cells.length=n)&&(decide (o+n≤z.length)&&AV.aD v.cells)) (setFrom z o v.cells)):=by
 simp only[ei,xo]
 by_cases c:v.cells.length=n∧o+n≤z.length∧AV.aD v.cells=true
 · rw[if_pos c];obtain⟨c1,c2,c3⟩:=c;simp [c1,c2,c3,Ev]
 · rw[if_neg c,if_neg]; · rfl
   simpa using c
def Ed (p:Option (List AV)) (f:Nat→AV):Option (List AV×(Nat→AV)):=p.bind fun cs=>some (cs,f)
theorem Dt (cs:List AV) (f:Nat→AV):Ed (some cs) f=some (cs,f):=rfl
theorem zI (e:Env) (z:List AV):aZ e (.alloc z)=Ed (xo (AV.aD z) z) (fun i=>.aE i 0):=by
 simp only[aZ,xo];split<;>rfl
theorem Du (e:Env) (n:Nat) (x:X):aZ e (.box n x)=Ed (xo (decide ((x.ev e).cells.length=n)&&AV.aD (x.ev e).cells) (x.ev e).cells) (fun i=>.aE i 0):=by
 simp only[aZ,xo]
 by_cases c:(x.ev e).cells.length=n∧AV.aD (x.ev e).cells=true
 · rw[if_pos c];simp [c,Ed]
 · rw[if_neg c,if_neg]; · rfl
   simpa using c
theorem BF (e:Env) (sz len:Nat) (z:List AV) (ps:List (Nat×X)):aZ e (.cY sz len z ps)=Ed (Ev (ps.map fun p=>(p.1* sz,sz,p.2.ev e)) (xo (decide (z.length=sz)&&(decide (0<sz)&&AV.aD z)) (dU len z))) (fun i=>.aF i 0 len sz):=by
 simp only[aZ,xo]
 by_cases c:z.length=sz∧0<sz∧AV.aD z=true
 · rw[if_pos c];simp [c,Ed,Ev]
 · rw[if_neg c,if_neg]; · rfl
   simpa using c
theorem I5 (z:List AV):dU 0 z=[]:=rfl
theorem I4 (n:Nat) (z:List AV):dU (n+1) z=z++dU n z:=rfl
def Pf (wW:List Nat) (e:Env) (h:H) (b:Bool):dO:=if b then some (.normal,ay e wW,h)else none
theorem Im (wW:List Nat) (e:Env) (h:H):Pf wW e h true=some (.normal,ay e wW,h):=rfl
def Ta (c:ae) (ops:List aj) (fl:List (Nat×List Nat)) (wW:List Nat) (p:Option (Env×H×List H)):dO:=p.bind fun q=>Pf wW q.1 q.2.1 (bb c ops q.1 q.2.2 fl)
theorem KO (c:ae) (ops:List aj) (fl:List (Nat×List Nat)) (wW:List Nat) (e:Env) (h:H) (gs:List H):Ta c ops fl wW (some (e,h,gs))=Pf wW e h (bb c ops e gs fl):=rfl
theorem FQ (c:ae) (l:bN) (ord:List Nat) (ops:List aj) (x:Nat×List Nat) (fl:List (Nat×List Nat)) (wW:List Nat) (e:Env) (h:H):aM c l (.iY ord ops (x::fl) wW) e h=Ta c ops (x::fl) wW (aO c ops e h):=by
 rw[aM];rfl
theorem Lf (c:ae) (ops:List aj) (e:Env) (gs:List H):bb c ops e gs []=true:=rfl
def Sq (c:ae) (ops:List aj) (e:Env) (gs:List H) (i:Nat) (ks:List Nat):Bool:=ks.all (bL c ops e gs i)
theorem Le (c:ae) (ops:List aj) (e:Env) (gs:List H) (i:Nat) (ks:List Nat) (r:List (Nat×List Nat)):bb c ops e gs ((i,ks)::r)=(Sq c ops e gs i ks&&bb c ops e gs r):=rfl
theorem Lc (c:ae) (ops:List aj) (e:Env) (gs:List H) (i:Nat):Sq c ops e gs i []=true:=rfl
def Cs (c : ae) (e : Env) (o : Option aj) (g : Option H) : Bool := match o, g with
 | some o, some g =>
   if o.op.aJ then
    match o.dst.map (look e)with
    |some (.bS [])=>true
    | some v => (match v.id?, aZ e o.op with
      |some id,some b=>(match g.get id with|some cs=>AV.gl cs b.1|none=>false)
      |_,_=>false)
    |none=>false
   else match o.dst.map (look e)with
    |some v=>(match ai c o e g with|some (u,_)=>AV.beq u v|none=>false)
    |none=>false
 |_,_=>false
theorem Lb (c:ae) (ops:List aj) (e:Env) (gs:List H) (i k:Nat) (r:List Nat):Sq c ops e gs i (k::r)=(Cs c e (ops[i]?) (gs[k]?)&&Sq c ops e gs i r):=by
 unfold Sq
 rw[List.all_cons]
 congr 1
def SX (v:AV) (p:Option (AV×H)):Bool:=match p with|some (u,_)=>AV.beq u v|none=>false
theorem Ld (v u:AV) (h:H):SX v (some (u,h))=AV.beq u v:=rfl
def P2 (b:Bool) (x y:Bool):Bool:=if b then x else y
theorem K9 (x y:Bool):P2 false x y=y:=rfl
def CH (c:ae) (e:Env) (o:Option aj) (g:Option H):Bool:=Cs c e o g
theorem K8 (c:ae) (e:Env) (d:Nat) (op:cf) (g:H):Cs c e (some ⟨some d,op,none⟩) (some g)=P2 op.aJ (CH c e (some ⟨some d,op,none⟩) (some g)) (SX (look e d) (ah c e g op)):=by
 unfold CH Cs P2
 dsimp only
 cases op.aJ<;>rfl
theorem K7 (c:ae) (e:Env) (d:Nat) (op:cf) (k:Nat) (w:Bool) (g:H):Cs c e (some ⟨some d,op,some (k,w)⟩) (some g)=P2 op.aJ (CH c e (some ⟨some d,op,some (k,w)⟩) (some g)) (SX (look e d) (lg w c e g op (look e k))):=by
 unfold CH Cs P2
 dsimp only
 cases op.aJ with
 |true=>rfl
 |false=>rw[mK];rfl
mutual
theorem beq_refl:∀a:AV,AV.beq a a=true
 | .bot=>rfl
 | .bool b=>by simp [AV.beq]
 | .int k n=>by simp [AV.beq]
 | .str s=>Br s
 | .cK=>rfl
 | .aE i o=>by simp [AV.beq]
 | .aL c o=>by simp [AV.beq,xk c]
 | .aQ=>rfl
 | .aF i o l z=>by simp [AV.beq]
 | .aW t c o l z=>by simp [AV.beq,xk c]
 | .fn f a b=>by simp [AV.beq,xk a,xk b]
 | .eZ=>rfl
 | .iface t v=>by simp [AV.beq,beq_refl v]
 | .e9=>rfl
 | .agg c=>by simp [AV.beq,xk c]
 | .bS c=>by simp [AV.beq,xk c]
theorem xk:∀l:List AV,AV.gl l l=true
 |[]=>rfl
 |a::l=>by simp [AV.gl,beq_refl a,xk l]
end
theorem La (x y:Bool):P2 true x y=x:=rfl
def Qe (c:Option (List AV)) (d:List AV):Bool:=match c with|some cs=>AV.gl cs d|none=>false
theorem KK (c d:List AV):Qe (some c) d=AV.gl c d:=rfl
def DW (v : AV) (b : Option (List AV × (Nat → AV))) (g : H) : Bool := match v with
 | .bS []=>true
 | v => match v.id?, b with
   |some id,some b=>Qe (g.get id) b.1
   |_,_=>false
theorem Jn (b:Option (List AV×(Nat→AV))) (g:H):DW (.bS []) b g=true:=rfl
theorem Jm (i o:Nat) (cs:List AV) (f:Nat→AV) (g:H):DW (.aE i o) (some (cs,f)) g=Qe (g.get i) cs:=rfl
theorem Jl (i o l z:Nat) (cs:List AV) (f:Nat→AV) (g:H):DW (.aF i o l z) (some (cs,f)) g=Qe (g.get i) cs:=rfl
theorem Bz {c : ae} {e : Env} {d : Nat} {op : cf} {gd : Option (Nat × Bool)} {g : H} (hb : op.aJ = true) : CH c e (some ⟨some d, op, gd⟩) (some g) = DW (look e d) (aZ e op) g := by
 unfold CH Cs
 dsimp only
 rw[hb,if_pos rfl]
 show (match some (look e d) with
  |some (.bS [])=>true
  | some v => (match v.id?, aZ e op with
    |some id,some b=>(match g.get id with|some cs=>AV.gl cs b.1|none=>false)
    |_,_=>false)
  |none=>false)=_
 generalize look e d=v
 unfold DW Qe
 cases v with
 |bS vs=>cases vs<;>rfl
 |_=>cases aZ e op<;>rfl
theorem Ct (c:ae) (e:Env) (d:Nat) (z:List AV) (gd:Option (Nat×Bool)) (g:H):CH c e (some ⟨some d,.alloc z,gd⟩) (some g)=DW (look e d) (aZ e (.alloc z)) g:=Bz rfl
theorem EZ (c:ae) (e:Env) (d n:Nat) (x:X) (gd:Option (Nat×Bool)) (g:H):CH c e (some ⟨some d,.box n x,gd⟩) (some g)=DW (look e d) (aZ e (.box n x)) g:=Bz rfl
theorem Bm (c:ae) (e:Env) (d n m:Nat) (z:List AV) (ps:List (Nat×X)) (gd:Option (Nat×Bool)) (g:H):CH c e (some ⟨some d,.cY n m z ps,gd⟩) (some g)=DW (look e d) (aZ e (.cY n m z ps)) g:=Bz rfl
theorem Dj (c:ae) (e:Env) (d n m:Nat) (z:List AV) (x y:X) (gd:Option (Nat×Bool)) (g:H):CH c e (some ⟨some d,.ja n m z x y,gd⟩) (some g)=DW (look e d) (aZ e (.ja n m z x y)) g:=Bz rfl
theorem D9 (b:Bool):AV.beq (.bool b) (.bool b)=true:=by simp [AV.beq]
theorem Ec:AV.beq (.bS []) (.bS [])=true:=rfl
theorem Ea:AV.beq .aQ .aQ=true:=rfl
theorem CJ:AV.beq .cK .cK=true:=rfl
theorem It (sz id off len:Nat) (i:AV):fZ sz (.aF id off len sz) i=ud id off sz (di i len):=by simp [fZ,ud]
theorem Is (t:Bool) (cells:List AV) (sz off len:Nat) (i:AV):fZ sz (.aW t cells off len sz) i=ue cells off sz (di i len):=by simp [fZ,ue]
def zW (n:Nat) (z:List AV):List AV:=dU n z
def KS (sz bytes:Nat) (zero:List AV) (l c:AV):Option (List AV×(Nat→AV)):=
 match l,c with
 | .int .i64 l,.int .i64 c=>Ed (xo (decide (0≤l)&&(decide (l≤c)&&(decide (c≤9223372036854775807)&&(decide ((bytes:Int)* c≤281474976710656)&&(decide (zero.length=sz)&&(decide (0<sz)&&AV.aD zero)))))) (zW c.toNat zero)) (fun i=>.aF i 0 l.toNat sz)
 |_,_=>none
theorem DJ (sz bytes:Nat) (zero:List AV) (l c:Int):KS sz bytes zero (.int .i64 l) (.int .i64 c)=Ed (xo (decide (0≤l)&&(decide (l≤c)&&(decide (c≤9223372036854775807)&&(decide ((bytes:Int)* c≤281474976710656)&&(decide (zero.length=sz)&&(decide (0<sz)&&AV.aD zero)))))) (zW c.toNat zero)) (fun i=>.aF i 0 l.toNat sz):=rfl
theorem Ee (e : Env) (sz bytes : Nat) (zero : List AV) (l c : X) : aZ e (.ja sz bytes zero l c) = KS sz bytes zero (l.ev e) (c.ev e) := by
 simp only[aZ]
 cases l.ev e with
 | int k l => cases k <;> cases c.ev e with
   | int k2 c => cases k2 <;> first
     |rfl
     | (simp only [DJ, xo]
        by_cases q:0≤l∧l≤c∧c≤9223372036854775807∧(bytes:Int)* c≤281474976710656∧zero.length=sz∧0<sz∧AV.aD zero=true
        · rw[if_pos q];obtain⟨q1,q2,q3,q4,q5,q6,q7⟩:=q
          rw[if_pos]
          · rfl
          · simp [q1,q2,q3,q4,q5,q6,q7]
        · rw[if_neg q,if_neg]
          · rfl
          · simpa using q)
   |_=>rfl
 |_=>cases c.ev e<;>rfl
theorem HL (i o l z:Nat):ji false (.aF i o l z)=some (.int .i64 l):=rfl
theorem HK:ji false .aQ=some (.int .i64 0):=rfl
theorem HJ (t:Bool) (c:List AV) (o l z:Nat):ji false (.aW t c o l z)=some (.int .i64 l):=rfl
theorem Ah (s:ByteArray):ji true (.str s)=some (.int .i64 s.size):=rfl
theorem Ju (a b:Nat):((a:Int)+(b:Int)).toNat=a+b:=by omega
theorem wO (a:Nat):((a:Int)).toNat=a:=by omega
def yq (s:ByteArray) (i:Nat):Nat:=((s[i]?).map (·.toNat)).getD 0
theorem zq (s:ByteArray) (i:Nat):yq s i<256:=by
 unfold yq
 cases s[i]? with
 |none=>simp
 |some b=>simp;exact b.toNat_lt
theorem Bv {s:ByteArray} {i:Int} (h:0≤i∧i<s.size):mg (.str s) (.int .i64 i)=some (.int .u8 (yq s i.toNat:Nat)):=by
 have hi:i.toNat<s.size:=by omega
 simp [mg,PZ h,yq,hi]
def A3 {α:Type} (b:Bool) (x y:Option α):Option α:=if b then x else y
theorem Ja {α:Type} (x y:Option α):A3 true x y=x:=rfl
theorem I9 {α:Type} (x y:Option α):A3 false x y=y:=rfl
def PL (n o k:Nat) (p:Option (List AV)):Option (Nat×List AV):=p.bind fun cs=>xo (decide (o+k* n≤cs.length)) (k,(cs.drop o).take (k* n))
theorem Jk (n o k:Nat) (cs:List AV):PL n o k (some cs)=xo (decide (o+k* n≤cs.length)) (k,(cs.drop o).take (k* n)):=rfl
theorem K5 (h:H) (n p o k:Nat):aT h n (.aF p o k n)=PL n o k (h.get p):=by
 simp only[aT,if_true,PL]
 cases h.get p with
 |none=>rfl
 |some cs=>simp only[uG,xo,UH]
theorem K3 (h:H) (t:Bool) (n o k:Nat) (cs:List AV):aT h n (.aW t cs o k n)=xo (decide (o+k* n≤cs.length)) (k,(cs.drop o).take (k* n)):=by
 simp only[aT,if_true,xo,UH]
theorem K4 (h:H) (n:Nat):aT h n .aQ=some (0,[]):=uD rfl rfl
theorem K6 (h:H) (s:ByteArray):aT h 1 (.str s)=some (s.size,s.data.toList.map fun b=>.int .u8 b.toNat):=uD rfl rfl
def Qb (h:H) (n z:Nat) (a:AV) (p:Option (Nat×List AV)):Option (AV×H):=p.bind fun r=>dX h n z a r.1 r.2
theorem HP (h:H) (n z:Nat) (a:AV) (m:Nat) (bs:List AV):Qb h n z a (some (m,bs))=dX h n z a m bs:=rfl
theorem KI (h:H) (n z:Nat) (a b:AV):kN h n z a b=Qb h n z a (aT h n b):=uD rfl rfl
def SH (h:H) (n z p o k m:Nat) (bs:List AV) (q:Option (List AV)):Option (AV×H):=q.bind fun cs=>
 A3 (decide (o+(k+m)* n≤cs.length)) (some (.aF p o (k+m) n,h.set p (setFrom cs (o+k* n) bs))) (A3 (decide (o+k* n=cs.length)&&roomy z (k+m)) (some (.aF h.next 0 (k+m) n,(h.del p).alloc (cs.drop o++bs))) none)
theorem KF (h:H) (n z p o k m:Nat) (bs cs:List AV):SH h n z p o k m bs (some cs)=A3 (decide (o+(k+m)* n≤cs.length)) (some (.aF p o (k+m) n,h.set p (setFrom cs (o+k* n) bs))) (A3 (decide (o+k* n=cs.length)&&roomy z (k+m)) (some (.aF h.next 0 (k+m) n,(h.del p).alloc (cs.drop o++bs))) none):=rfl
theorem KH (h : H) (n z p o k m : Nat) (bs : List AV) : dX h n z (.aF p o k n) m bs = A3 (decide (m = 0)) (some (.aF p o k n, h)) (A3 (AV.aD bs && (decide (0 < n) && decide (h.floor ≤ p))) (SH h n z p o k m bs (h.get p)) none) := by
 unfold dX A3
 by_cases c:m=0
 · simp [c]
 · rw [if_neg c]
   simp only[UH,if_neg c]
   by_cases c1:AV.aD bs=false∨n=0
   · rw[if_pos c1,if_neg]
     rcases c1 with c1|c1
     · simp [c1]
     · simp [c1]
   · rw[if_neg c1]
     have q1:AV.aD bs=true:=by cases q:AV.aD bs with|true=>rfl|false=>exact absurd (.inl q) c1
     by_cases c2:h.floor≤p
     · have qq:(AV.aD bs&&(decide (0<n)&&decide (h.floor≤p)))=true:=by simp [q1,c2];omega
       simp only[true_and,if_pos c2,qq,if_true,SH,A3]
       cases h.get p with
       |none=>rfl
       |some cs=>simp only[uG,UH,uL]
     · have qq:(AV.aD bs&&(decide (0<n)&&decide (h.floor≤p)))=false:=by simp [c2]
       simp only[true_and,if_neg c2,qq];rfl
theorem KG (h:H) (n z m:Nat) (bs:List AV):dX h n z .aQ m bs=A3 (decide (m=0)) (some (.aQ,h)) (A3 (AV.aD bs&&(decide (0<n)&&roomy z m)) (some (.aF h.next 0 m n,h.alloc bs)) none):=by
 unfold dX A3
 by_cases c:m=0
 · simp [c]
 · rw[if_neg c]
   simp only[UH,if_neg c]
   by_cases c1:AV.aD bs=false∨n=0
   · rw[if_pos c1,if_neg]
     rcases c1 with c1|c1
     · simp [c1]
     · simp [c1]
   · rw[if_neg c1]
     have q1:AV.aD bs=true:=by cases q:AV.aD bs with|true=>rfl|false=>exact absurd (.inl q) c1
     have q2:0<n:=by omega
     simp [q1,q2]
theorem Gu {b n:Nat} (h:1≤b∧(n+n/4+512)* b≤281474976710656):roomy b n=true:=by simp only[roomy,h.1,h.2,and_self,decide_true]
theorem Sp {h:H} {n p o k:Nat} {m:Int} {cs:List AV} (hg:h.get p=some cs) (hn:0<n) (hk:o+k* n≤cs.length) (hm:0≤m∧m.toNat≤(cs.length-o)/n):rP h n (.aF p o k n) none (some (.int .i64 m)) none=some (.aF p o m.toNat n):=by
 have h1:k≤(cs.length-o)/n:=by rw[Nat.le_div_iff_mul_le hn];omega
 simp only[rP,hn,and_self,if_true,hg,uG,aC]
 rw[if_pos ⟨by omega,h1⟩]
 have h3:ko (.int .i64 m) ((cs.length-o)/n)=some m.toNat:=by
  simp only[ko,nE,uG]
  rw[if_pos]
  omega
 simp [h3]
theorem y3 {α:Type} {C:α→List AV} {n:Nat} (hC:∀x,(C x).length=n):∀{l:List α} {i f:Nat} {x:α},l[i]?=some x→f<n→(l.flatMap C)[i* n+f]?=(C x)[f]?
 |[],i,f,x,h,_=>by simp at h
 | y :: l, 0, f, x, h, hf => by
   obtain rfl:y=x:=by simpa using h
   rw[List.flatMap_cons,Nat.zero_mul,uP,List.getElem?_append_left (by rw[hC];exact hf)]
 | y :: l, i + 1, f, x, h, hf => by
   rw[List.flatMap_cons,List.getElem?_append_right (by rw[hC,u0];omega),hC]
   rw[show(i+1)* n+f-n=i* n+f by rw[u0];omega]
   exact y3 hC (by simpa using h) hf
theorem Fy {α:Type} {C:α→List AV} {n:Nat} (hC:∀x,(C x).length=n):∀l:List α,(l.flatMap C).length=l.length* n
 |[]=>by simp
 |y::l=>by rw[List.flatMap_cons,vg,hC,Fy hC l,UD,u0];omega
theorem DC {α:Type} {C:α→List AV} {n:Nat} (hC:∀x,(C x).length=n):∀{l:List α} {i:Nat} {x:α},l[i]?=some x→((l.flatMap C).drop (i* n)).take n=C x
 |[],i,x,h=>by simp at h
 | y :: l, 0, x, h => by
   obtain rfl:y=x:=by simpa using h
   rw[List.flatMap_cons,Nat.zero_mul,UK,List.take_append_of_le_length (by rw[hC];omega),uZ (by rw[hC];omega)]
 | y :: l, i + 1, x, h => by
   rw[List.flatMap_cons,List.drop_append,List.drop_of_length_le (by rw[hC,u0];omega),List.nil_append,hC,show(i+1)* n-n=i* n by rw[u0];omega]
   exact DC hC (by simpa using h)
def xb (n:Nat) (h:H) (v:AV) (k:Nat) (cs:List AV):Prop:=aT h n v=some (k,cs)∧cs.length=k* n∧∀s,v≠.str s
theorem Rd.Ck {h:H} {v:AV} {cs:List AV} (r:Rd h v cs):xb 1 h v cs.length cs:=⟨r.1,by omega,r.2⟩
theorem xb.len {n:Nat} {h:H} {v:AV} {k:Nat} {cs:List AV} (r:xb n h v k cs):ji false v=some (.int .i64 k):=by
 obtain⟨r,_,hs⟩:=r
 unfold aT at r
 split at r
 · obtain⟨h1,h2⟩:=uB (uz r);subst h1;rfl
 · exact absurd rfl (hs _)
 · split at r
   · simp only[uy]at r
     obtain⟨c,_,r⟩:=r
     split at r
     · obtain⟨h1,h2⟩:=uB (uz r);simp [ji,h1]
     · cases r
   · cases r
 · split at r
   · split at r
     · obtain⟨h1,h2⟩:=uB (uz r);simp [ji,h1]
     · cases r
   · cases r
 · cases r
theorem xb.mono {n:Nat} {h g:H} {v:AV} {k:Nat} {cs:List AV} (r:xb n h v k cs) (hg:∀id c,h.get id=some c→g.get id=some c):xb n g v k cs:=by
 obtain⟨r,hl,hs⟩:=r
 refine⟨?_,hl,hs⟩
 unfold aT at r ⊢
 split at r
 · exact r
 · exact r
 · split at r
   · rename_i q;simp only[if_pos q,uy]at r ⊢
     obtain⟨c,h1,r⟩:=r
     exact⟨c,hg _ _ h1,r⟩
   · cases r
 · exact r
 · cases r
theorem xb.at_ {n : Nat} {h : H} {v : AV} {k : Nat} {cs : List AV} (r : xb n h v k cs) : ∃ ad : Int → Nat → AV,
 (∀i:Int,0≤i∧i<k→fZ n v (.int .i64 i)=some (ad i 0))∧
 (∀(i:Int) (f g:Nat),0≤i∧i<k→ft g (ad i f)=some (ad i (f+g)))∧
 (∀(i:Int) (f:Nat) (g:H),0≤i∧i<k→jG g (ad i f)=some (ad i f,g))∧
 (∀g:H,(∀id c,h.get id=some c→g.get id=some c)→(∀(i:Int) (f:Nat) (c:AV),0≤i∧i<k→cs[i.toNat* n+f]?=some c→bX false 1 (ad i f) g=some c)∧
   ∀i:Int,0≤i∧i<k→bX true n (ad i 0) g=some (.agg ((cs.drop (i.toNat* n)).take n))):=by
 obtain⟨r,hl,hs⟩:=r
 unfold aT at r
 split at r
 · obtain⟨h1,h2⟩:=uB (uz r);subst h1
   exact⟨fun _ _=>.bot,fun i hi=>by omega,fun i f g hi=>by omega,fun i f g hi=>by omega,fun g _=>⟨fun i f c hi=>by omega,fun i hi=>by omega⟩⟩
 · exact absurd rfl (hs _)
 · rename_i id off len s
   split at r
   · rename_i q
     subst q
     simp only[uy]at r
     obtain⟨d,hd,r⟩:=r
     split at r
     · rename_i hle
       obtain⟨h1,h2⟩:=uB (uz r)
       subst h1
       have bnd:∀i:Int,0≤i∧i<len→i.toNat* s+s≤len* s:=fun i hi=>by
        have:=uN s (show i.toNat+1≤len by omega);rw[u0]at this;omega
       refine⟨fun i f=>.aE id (off+i.toNat* s+f),fun i hi=>by simp [fZ,PZ hi],fun i f g _=>by simp [ft];omega,fun i f g _=>rfl,fun g hg=>⟨fun i f c hi hc=> ?_,fun i hi=> ?_⟩⟩
       · simp only[bX,hg _ _ hd,uG,ij,uH,vh]
         rw[←h2,u9]at hc
         split at hc
         · rw[uV]at hc;rw[uJ];exact hc
         · cases hc
       · have:=bnd i hi
         simp only[bX,hg _ _ hd,uG,ij,if_true,UZ]
         rw[if_pos (by omega),←h2,List.drop_take,List.take_take,List.drop_drop,Nat.min_eq_left (by omega)]
     · cases r
   · cases r
 · rename_i t cells off len s
   split at r
   · rename_i q
     subst q
     split at r
     · rename_i hle
       obtain⟨h1,h2⟩:=uB (uz r)
       subst h1
       have bnd:∀i:Int,0≤i∧i<len→i.toNat* s+s≤len* s:=fun i hi=>by
        have:=uN s (show i.toNat+1≤len by omega);rw[u0]at this;omega
       refine⟨fun i f=>.aL cells (off+i.toNat* s+f),fun i hi=>by simp [fZ,PZ hi],fun i f g _=>by simp [ft];omega,fun i f g _=>rfl,fun g hg=>⟨fun i f c hi hc=> ?_,fun i hi=> ?_⟩⟩
       · simp only[bX,ij,uH,vh]
         rw[←h2,u9]at hc
         split at hc
         · rw[uV]at hc;rw[uJ];exact hc
         · cases hc
       · have:=bnd i hi
         simp only[bX,ij,if_true,UZ]
         rw[if_pos (by omega),←h2,List.drop_take,List.take_take,List.drop_drop,Nat.min_eq_left (by omega)]
     · cases r
   · cases r
 · cases r
def vT (n:Nat) (h:H) (v:AV) (k:Nat) (cs:List AV):Prop:=cs.length=k* n∧((v=.aQ∧k=0)∨∃id,v=.aF id 0 k n∧h.get id=some cs∧h.floor≤id∧0<k)
theorem vT.nil {n:Nat} {h:H}:vT n h .aQ 0 []:=⟨by simp,.inl ⟨rfl,rfl⟩⟩
theorem vT.mono {n:Nat} {h g:H} {v:AV} {k:Nat} {cs:List AV} (o:vT n h v k cs) (hf:g.floor=h.floor) (hg:∀i,v.id?=some i→g.get i=h.get i):vT n g v k cs:=by
 obtain⟨l,o⟩:=o
 refine⟨l, ?_⟩
 rcases o with o|⟨id,rfl,h1,h2,h3⟩
 · exact .inl o
 · exact .inr ⟨id,rfl,by rw[hg id rfl];exact h1,by rw[hf];exact h2,h3⟩
theorem vT.sc {n:Nat} {h:H} {v:AV} {k:Nat} {cs:List AV} (o:vT n h v k cs):v.sc=true:=by
 rcases o.2 with ⟨rfl,_⟩|⟨id,rfl,_⟩<;>rfl
theorem vT.lt {n:Nat} {h:H} {v:AV} {k:Nat} {cs:List AV} (o:vT n h v k cs) {i:Nat} (hi:v.id?=some i):h.floor≤i∧i<h.next:=by
 rcases o.2 with ⟨rfl,_⟩|⟨id,rfl,h1,h2⟩
 · cases hi
 · obtain rfl:=uz hi;exact⟨h2.1,h.lt _ _ h1⟩
theorem vT.rd {n:Nat} {h:H} {v:AV} {k:Nat} {cs:List AV} (o:vT n h v k cs):xb n h v k cs:=by
 obtain⟨l,o⟩:=o
 rcases o with ⟨rfl,rfl⟩|⟨id,rfl,h1,h2⟩
 · have:cs=[]:=UO (by omega)
   subst this
   exact⟨rfl,by simp,fun _=>by simp⟩
 · refine⟨?_,l,fun _=>by simp⟩
   simp only[aT,if_true,h1,uG,uP]
   rw[if_pos (by omega),UK,uZ (by omega)]
theorem vT.app {n:Nat} {h:H} {v:AV} {k:Nat} {cs:List AV} (o:vT n h v k cs) (hfn:h.floor≤h.next) {z m:Nat} (hm:0<m) (hn:0<n) (bs:List AV) (hb:bs.length=m* n) (hc:AV.aD bs=true) (hr:roomy z (k+m)=true):
 ∃v' h',dX h n z v m bs=some (v',h')∧vT n h' v' (k+m) (cs++bs)∧h'.floor=h.floor∧h.next≤h'.next∧(∀i,v.id?≠some i→i≠h.next→h'.get i=h.get i)∧v'.id?=some h.next:=by
 obtain⟨hl,o⟩:=o
 have hll:(cs++bs).length=(k+m)* n:=by rw[vg,hl,hb,u0]
 rcases o with ⟨rfl,rfl⟩|⟨id,rfl,hg,hf,_⟩
 · have:cs=[]:=UO (by omega)
   subst this
   refine⟨.aF h.next 0 m n,h.alloc bs, ?_,⟨hll,.inr ⟨h.next,by simp,by simp [H.aX],by simp;omega,by omega⟩⟩,by simp,by simp,fun i _ hi=>by rw[H.aX,if_neg hi],rfl⟩
   unfold dX
   rw[if_neg (by omega),if_neg (by simp [hc];omega)]
   rw[uP]at hr
   simp only[hr,if_true]
 · have hmn:0<m* n:=Nat.mul_pos hm hn
   have hnot:¬0+(k+m)* n≤cs.length:=by rw[hl,u0];omega
   refine⟨.aF h.next 0 (k+m) n,(h.del id).alloc (cs++bs), ?_,⟨hll,.inr ⟨h.next,by simp,by simp [H.aX], ?_,by omega⟩⟩,by simp,by simp,fun i h1 h2=> ?_,rfl⟩
   · unfold dX
     rw[if_neg (by omega),if_neg (by simp [hc];omega)]
     simp only[hf,and_self,if_true,hg,uG]
     rw[if_neg hnot,if_pos ⟨by omega,hr⟩]
     simp
   · have:=h.lt id cs hg;simp;omega
   · rw[H.aX,H.jE,if_neg h2,H.ep,if_neg]
     intro e;subst e;exact h1 rfl
theorem vT.push {n:Nat} {h:H} {v:AV} {k:Nat} {cs:List AV} (o:vT n h v k cs) (hfn:h.floor≤h.next) {z m:Nat} (hm:0<m) (hn:0<n) (bs:List AV) (hb:bs.length=m* n) (hc:AV.aD bs=true) (hr:roomy z (k+m)=true):
 ∃v' h',kN (h.alloc bs) n z v (.aF h.next 0 m n)=some (v',h')∧vT n h' v' (k+m) (cs++bs)∧h'.floor=h.floor∧h.next+1≤h'.next∧(∀i,v.id?≠some i→i<h.next→h'.get i=h.get i)∧v'.id?=some (h.next+1):=by
 have o1:vT n (h.alloc bs) v k cs:=o.mono (by simp) fun i q=>by rw[H.aX,if_neg];have:=o.lt q;omega
 obtain⟨v',h',p1,p2,p3,p4,p5,p6⟩:=o1.app (z:=z) (by simp;omega) hm hn bs hb hc hr
 refine⟨v',h', ?_,p2,by rw[p3];simp,by simpa using p4,fun i q1 q2=> ?_,by simpa using p6⟩
 · have src:aT (h.alloc bs) n (.aF h.next 0 m n)=some (m,bs):=by
    simp only[aT,if_true,H.aX,uG,uP]
    rw[if_pos (by omega),UK,uZ (by omega)]
   unfold kN;rw[src,uG];exact p1
 · rw[p5 i q1 (by simp;omega),H.aX,if_neg (by omega)]
def DV (n k:Nat) (cs:List AV):AV:=if k=0 then .aQ else .aW false cs 0 k n
theorem DQ {n k:Nat} {h:H} {cs:List AV} (hl:cs.length=k* n):xb n h (DV n k cs) k cs:=by
 unfold DV
 by_cases hk:k=0
 · subst hk
   have:cs=[]:=UO (by omega)
   subst this
   exact⟨rfl,by simp,fun _=>by simp⟩
 · rw[if_neg hk]
   refine⟨?_,hl,fun _=>by simp⟩
   simp only[aT,if_true,uP]
   rw[if_pos (by omega),UK,uZ (by omega)]
theorem vT.yt {n:Nat} {h:H} {v:AV} {k:Nat} {l:List Int} {fl m:Nat} {t:Bool} (o:vT n h v k (ints l)) (hf:fl≤h.floor):snap h.get fl (m+2) t v=some (DV n k (ints l)):=by
 obtain⟨hl,o⟩:=o
 rw[pC]at hl
 rcases o with ⟨rfl,rfl⟩|⟨id,rfl,q,h2,hk⟩
 · rfl
 · unfold snap
   rw[if_neg (by omega),q,uG,if_pos (by rw[pC];omega)]
   rw[UK,uZ (by rw[pC];omega),xn]
   unfold DV
   rw[if_neg (by omega)];rfl
attribute [go_sem] List.map_cons List.map_nil Bool.and_true Bool.true_and Bool.and_self List.append_nil Option.map_some Option.map_none Bool.and_false Bool.false_and Bool.or_false Bool.or_true Bool.true_or Bool.false_or Bool.or_self cf.aP cf.aJ Int.reduceAdd Int.reduceSub Int.reduceMul Int.reduceNeg Int.reduceToNat List.take_succ_cons List.take_zero List.drop_zero List.drop_succ_cons Int.cast_ofNat_Int Int.natCast_one Int.natCast_zero List.length_set
theorem vq:type_of% @dt∧type_of% @df∧type_of% @S9∧type_of% @Nk∧type_of% @Py∧type_of% @KU∧type_of% @wi∧type_of% @wb∧type_of% @Ah∧type_of% @Bv∧type_of% @Ju∧type_of% @wO∧type_of% @PZ∧type_of% @vu∧type_of% @vO∧type_of% @vH∧type_of% @vA∧type_of% @H.jy∧type_of% @H.kh∧type_of% @H.k9∧type_of% @H.jF∧type_of% @Jo∧type_of% @wM∧type_of% @Ie∧type_of% @Ic∧type_of% @F8∧type_of% @BF∧type_of% @zI∧type_of% @Du∧type_of% @Dt∧type_of% @I4∧type_of% @I5∧type_of% @pK∧type_of% @o0∧type_of% @ru∧type_of% @pS∧type_of% @It∧type_of% @Is∧type_of% @sG∧type_of% @sH∧type_of% @Ee∧type_of% @DJ∧type_of% @HL∧type_of% @HK∧type_of% @HJ∧type_of% @FQ∧type_of% @KO∧type_of% @Im∧type_of% @Lf∧type_of% @Le∧type_of% @Lc∧type_of% @Lb∧type_of% @Ld∧type_of% @K9∧type_of% @Bq∧type_of% @D9∧type_of% @Ec∧type_of% @Ea∧type_of% @CJ∧type_of% @Br∧type_of% @Aj∧type_of% @Eb∧type_of% @yO∧type_of% @AR∧type_of% @IL∧type_of% @AQ∧type_of% @AX∧type_of% @AW∧type_of% @K8∧type_of% @K7∧type_of% @tJ∧type_of% @beq_refl∧type_of% @xk∧type_of% @La∧type_of% @KK∧type_of% @Jn∧type_of% @Jm∧type_of% @Jl∧type_of% @Ct∧type_of% @EZ∧type_of% @Bm∧type_of% @Dj:=⟨@dt, @df, @S9, @Nk, @Py, @KU, @wi, @wb, @Ah, @Bv, @Ju, @wO, @PZ, @vu, @vO, @vH, @vA, @H.jy, @H.kh, @H.k9, @H.jF, @Jo, @wM, @Ie, @Ic, @F8, @BF, @zI, @Du, @Dt, @I4, @I5, @pK, @o0, @ru, @pS, @It, @Is, @sG, @sH, @Ee, @DJ, @HL, @HK, @HJ, @FQ, @KO, @Im, @Lf, @Le, @Lc, @Lb, @Ld, @K9, @Bq, @D9, @Ec, @Ea, @CJ, @Br, @Aj, @Eb, @yO, @AR, @IL, @AQ, @AX, @AW, @K8, @K7, @tJ, @beq_refl, @xk, @La, @KK, @Jn, @Jm, @Jl, @Ct, @EZ, @Bm, @Dj⟩
theorem Fg:type_of% @Ay∧type_of% @At∧type_of% @Ar∧type_of% @DK∧type_of% @DB∧type_of% @yM∧type_of% @FH∧type_of% @Ja∧type_of% @I9∧type_of% @Jk∧type_of% @K5∧type_of% @K3∧type_of% @K4∧type_of% @K6∧type_of% @HP∧type_of% @KI∧type_of% @KF∧type_of% @KH∧type_of% @KG∧type_of% @Gu∧type_of% @wy∧type_of% @wI∧type_of% @Cz∧type_of% @Cy:=⟨@Ay, @At, @Ar, @DK, @DB, @yM, @FH, @Ja, @I9, @Jk, @K5, @K3, @K4, @K6, @HP, @KI, @KF, @KH, @KG, @Gu, @wy, @wI, @Cz, @Cy⟩
theorem ye:type_of% @H.kh∧type_of% @H.jF∧type_of% @DK∧type_of% @Ay∧type_of% @H.jy∧type_of% @H.k9∧type_of% @DB∧type_of% @Ar:=⟨@H.kh, @H.jF, @DK, @Ay, @H.jy, @H.k9, @DB, @Ar⟩
theorem D4:type_of% @vu∧type_of% @vO∧type_of% @vH∧type_of% @vA∧type_of% @yM∧type_of% @At:=⟨@vu, @vO, @vH, @vA, @yM, @At⟩
end Ab
set_option maxRecDepth 100000
namespace Ab
open Go
theorem wrap_u32 {n:Nat} (h:n<4294967296):IntKind.wrap .u32 (n:Int)=n:=by
 have e:IntKind.wrap .u32 (n:Int)=(n:Int)%4294967296:=by simp [IntKind.wrap,IntKind.bits,IntKind.signed]
 rw[e];omega
theorem HD (n:Int):IntKind.wrap .u32 n=n%4294967296:=by simp [IntKind.wrap,IntKind.bits,IntKind.signed]
theorem wu {n:Int} (h:0≤n∧n<4294967296):IntKind.wrap .u32 n=n:=by rw[HD];omega
theorem zH {a b:Nat} (ha:a<4294967296) (hb:b<4294967296):a^^^b<4294967296:=Nat.xor_lt_two_pow (n:=32) ha hb
theorem yu {a b:Nat} (ha:a<4294967296) (hb:b<4294967296):bits .xor .u32 (a:Int) (b:Int)=((a^^^b:Nat):Int):=by
 have h3:=zH ha hb
 show IntKind.wrap .u32 (((BitVec.ofInt 32 (a:Int)^^^BitVec.ofInt 32 (b:Int)).toNat:Nat):Int)=_
 rw[BitVec.toNat_xor,xI 32 a (by omega),xI 32 b (by omega)]
 exact wrap_u32 h3
theorem BH {a:Nat} (ha:a<4294967296):bits .and .u32 (a:Int) 1=((a%2:Nat):Int):=by
 show IntKind.wrap .u32 (((BitVec.ofInt 32 (a:Int)&&&BitVec.ofInt 32 ((1:Nat):Int)).toNat:Nat):Int)=_
 rw[BitVec.toNat_and,xI 32 a (by omega),xI 32 1 (by omega),Nat.and_one_is_mod]
 exact wrap_u32 (by omega)
theorem GC {a:Nat} (ha:a<4294967296):o4 .shr .u32 (a:Int) 1=some (.int .u32 ((a/2:Nat):Int)):=by
 unfold o4
 rw[if_neg (by omega)]
 have e:(2:Int)^min (Int.toNat 1) IntKind.u32.bits=2:=by decide
 rw[e]
 show some (AV.int .u32 _)=_
 rw[Int.fdiv_eq_ediv_of_nonneg _ (by omega)]
 rfl
theorem DG {h:H} {a:Nat} (ha:a<4294967296):sJ h (.int .u32 (a:Int))=some (.int .u32 ((4294967295-a:Nat):Int),h):=by
 rw[tM]
 have e:(if IntKind.u32.signed then-1 else IntKind.u32.max)=((4294967295:Nat):Int):=by decide
 rw[e,yu (by omega) ha]
 have h2:4294967295^^^a=4294967295-a:=by
  have h1:a<2^32:=by simpa using ha
  have:4294967295-a=2^32-(a+1):=by omega
  rw[this]
  apply Nat.eq_of_testBit_eq
  intro i
  rw[Nat.testBit_two_pow_sub_succ h1,Nat.testBit_xor,show 4294967295=2^32-1 from rfl,Nat.testBit_two_pow_sub_one]
  by_cases hi:i<32
  · simp [hi]
  · have:a.testBit i=false:=Nat.testBit_lt_two_pow (Nat.lt_of_lt_of_le h1 (UN (by omega) (by omega)))
    simp [hi,this]
 rw[h2]
def z5 (c:Nat):Nat:=if c%2=1 then(c/2)^^^3988292384 else c/2
def Ap:Nat→Nat→Nat
 |0,c=>c
 |n+1,c=>Ap n (z5 c)
def yk (c b:Nat):Nat:=Ap 8 (c^^^b)
def xV (s:ByteArray):Nat→Nat→Nat→Nat
 |0,_,c=>c
 |n+1,i,c=>xV s n (i+1) (yk c (yq s i))
theorem AK {c:Nat} (h:c<4294967296):z5 c<4294967296:=by
 unfold z5;split
 · exact zH (by omega) (by omega)
 · omega
theorem BP:∀(n:Nat) {c:Nat},c<4294967296→Ap n c<4294967296
 |0,_,h=>h
 |n+1,_,h=>BP n (AK h)
theorem yX {c b:Nat} (hc:c<4294967296) (hb:b<256):yk c b<4294967296:=BP 8 (zH hc (by omega))
theorem AL (s:ByteArray):∀(n i:Nat) {c:Nat},c<4294967296→xV s n i c<4294967296
 |0,_,_,h=>h
 |n+1,i,_,h=>AL s n (i+1) (yX h (zq s i))
theorem CV (a b d:AV) (h:H):∀(n c k:Nat),k+n=8→c<4294967296→
 ∃e',Lp AP.A [1,5,12,13,22] AP.f103L0 [(1,a),(5,.int .u32 c),(12,b),(13,d),(22,.int .i64 k)] h=some (.exit 2,e',h)∧look e' 1=a∧look e' 5=.int .u32 (Ap n c:Nat)∧look e' 12=b∧look e' 13=d
 | 0, c, k, hk, hc => by
   refine⟨[(1,a),(5,.int .u32 c),(12,b),(13,d),(22,.int .i64 k),(23,.bool false)],tc ?_,rfl,rfl,rfl,rfl⟩
   simp (disch:=omega)only[go_sem,vq,AP.f103L0]
 | n + 1, c, k, hk, hc => by
   obtain⟨e',r1,r2,r3,r4,r5⟩:=CV a b d h n (z5 c) (k+1) (by omega) (AK hc)
   have n1:((k+1:Nat):Int)=(k:Int)+1:=by omega
   have x1:=yu (a:=c/2) (b:=3988292384) (by omega) (by omega)
   have a1:=BH hc
   have s1:=GC hc
   refine⟨e',td ?_ r1,r2,r3,r4,r5⟩
   rw[n1]
   unfold z5
   by_cases p:c%2=1
   · rw[if_pos p]
     rw[show((3988292384:Nat):Int)=3988292384 from rfl]at x1
     simp (disch:=omega)only[go_sem,vq,AP.f103L0,a1,s1,x1]
   · rw[if_neg p]
     simp (disch:=omega)only[go_sem,vq,AP.f103L0,a1,s1]
theorem CW (s:ByteArray) (hs:s.size<1125899906842624) (h:H):∀(n i c:Nat),i+n=s.size→c<4294967296→
 ∃e',Lp AP.A [1,5,12,13] AP.f103L1 [(1,.str s),(5,.int .u32 c),(12,.int .i64 s.size),(13,.int .i64 i)] h=some (.exit 0,e',h)∧look e' 5=.int .u32 (xV s n i c:Nat)
 | 0, i, c, hi, hc => by
   refine⟨[(1,.str s),(5,.int .u32 c),(12,.int .i64 s.size),(13,.int .i64 i),(14,.bool false)],tc ?_,rfl⟩
   simp (disch:=omega)only[go_sem,vq,AP.f103L1]
 | n + 1, i, c, hi, hc => by
   have hb:=zq s i
   obtain⟨e',r1,r2⟩:=CW s hs h n (i+1) (yk c (yq s i)) (by omega) (yX hc hb)
   obtain⟨e1,q1,q2,q3,q4,q5⟩:=CV (.str s) (.int .i64 s.size) (.int .i64 i) h 8 (c^^^yq s i) 0 rfl (zH hc (by omega))
   have q1':Lp AP.A [1,5,12,13,22] AP.f103L0 [(1,.str s),(5,.int .u32 (c^^^yq s i:Nat)),(12,.int .i64 s.size),(13,.int .i64 i),(22,.int .i64 0)] h=some (.exit 2,e1,h):=q1
   clear q1
   have x1:=yu hc (show yq s i<4294967296 by omega)
   have n1:((i+1:Nat):Int)=(i:Int)+1:=by omega
   refine⟨e',td ?_ r1,r2⟩
   rw[n1]
   unfold yk
   simp (disch:=omega)only[go_sem,vq,AP.f103L1,wu,x1,rV,q1',q2,q3,q4,q5]
def xh (a:Nat) (s:ByteArray):Nat:=4294967295-xV s s.size 0 (4294967295-a)
theorem B0 (a:Nat) (s:ByteArray):xh a s<4294967296:=by unfold xh;omega
theorem FD (h:H) (s:ByteArray) (a:Nat) (ha:a<4294967296) (hs:s.size<1125899906842624):aS AP.A 103 [.int .i64 a,.str s] h=some (.int .i64 (xh a s:Nat),h):=by
 obtain⟨e',r1,r2⟩:=CW s hs h.eh s.size 0 (4294967295-a) (by omega) (by omega)
 have r1':Lp AP.A [1,5,12,13] AP.f103L1 [(1,.str s),(5,.int .u32 (4294967295-a:Nat)),(12,.int .i64 s.size),(13,.int .i64 0)] h.eh=some (.exit 0,e',h.eh):=r1
 clear r1
 have lt:=AL s s.size 0 (c:=4294967295-a) (by omega)
 have v1:∀g:H,sJ g (.int .u32 (a:Int))=some (.int .u32 ((4294967295-a:Nat):Int),g):=fun g=>DG ha
 have v2:∀g:H,sJ g (.int .u32 (xV s s.size 0 (4294967295-a):Nat))=some (.int .u32 ((4294967295-xV s s.size 0 (4294967295-a):Nat):Int),g):=fun g=>DG lt
 refine tQ (fn:=AP.f103) (h2:=h.eh) (e:=[(4,.int .i64 (xh a s:Nat))]) rfl rfl rfl ?_ rfl rfl
 unfold xh
 simp (disch:=omega)only[go_sem,vq,AP.f103,wu,v1,v2,rV,r1',r2]
def z9 (x:Int):Bool:=decide (0≤x∧x≤4294967295)
theorem Kb (h:H) (x:Int):aS AP.A 105 [.int .i64 x] h=some (.bool (z9 x),h):=by
 refine tQ (fn:=AP.f105) (h2:=h.eh) (e:=[(2,.bool (z9 x))]) rfl rfl rfl ?_ rfl rfl
 unfold z9
 by_cases c1:0≤x
 · by_cases c2:x≤4294967295
   · simp (disch:=omega)only[go_sem,vq,AP.f105]
   · simp (disch:=omega)only[go_sem,vq,AP.f105]
 · simp (disch:=omega)only[go_sem,vq,AP.f105]
def xG (s:ByteArray):Nat:=xh 0 s
theorem EI (h:H) (s:ByteArray) (hs:s.size<1125899906842624):aS AP.A 115 [.str s] h=some (.int .i64 (xG s:Nat),h):=by
 have k1:=FD h.eh s 0 (by omega) hs
 have k1':aS AP.A 103 [.int .i64 0,.str s] h.eh=some (.int .i64 (xG s:Nat),h.eh):=k1
 refine tQ (fn:=AP.f115) (h2:=h.eh) (e:=[(2,.int .i64 (xG s:Nat))]) rfl rfl rfl ?_ rfl rfl
 simp (disch:=omega)only[go_sem,vq,AP.f115,k1']
theorem Dl (a d:AV) (h:H):∀(n c k:Nat),k+n=8→c<4294967296→
 ∃e',Lp AP.A [0,1,5,6] AP.f111L0 [(0,.int .u32 c),(1,a),(5,d),(6,.int .i64 k)] h=some (.exit 2,e',h)∧look e' 1=a∧look e' 0=.int .u32 (Ap n c:Nat)∧look e' 5=d
 | 0, c, k, hk, hc => by
   refine⟨[(0,.int .u32 c),(1,a),(5,d),(6,.int .i64 k),(20,.bool false)],tc ?_,rfl,rfl,rfl⟩
   simp (disch:=omega)only[go_sem,vq,AP.f111L0]
 | n + 1, c, k, hk, hc => by
   obtain⟨e',r1,r2,r3,r4⟩:=Dl a d h n (z5 c) (k+1) (by omega) (AK hc)
   have n1:((k+1:Nat):Int)=(k:Int)+1:=by omega
   have x1:=yu (a:=c/2) (b:=3988292384) (by omega) (by omega)
   have a1:=BH hc
   have s1:=GC hc
   refine⟨e',td ?_ r1,r2,r3,r4⟩
   rw[n1]
   unfold z5
   by_cases p:c%2=1
   · rw[if_pos p]
     rw[show((3988292384:Nat):Int)=3988292384 from rfl]at x1
     simp (disch:=omega)only[go_sem,vq,AP.f111L0,a1,s1,x1]
   · rw[if_neg p]
     simp (disch:=omega)only[go_sem,vq,AP.f111L0,a1,s1]
theorem Dm (s:ByteArray) (hs:s.size<1125899906842624) (h:H):∀(n i c:Nat),i+n=s.size→c<4294967296→
 ∃e',Lp AP.A [0,1,5] AP.f111L1 [(0,.int .u32 c),(1,.str s),(5,.int .i64 i)] h=some (.exit 0,e',h)∧look e' 0=.int .u32 (xV s n i c:Nat)
 | 0, i, c, hi, hc => by
   refine⟨[(0,.int .u32 c),(1,.str s),(5,.int .i64 i),(10,.bool false)],tc ?_,rfl⟩
   simp (disch:=omega)only[go_sem,vq,AP.f111L1]
 | n + 1, i, c, hi, hc => by
   have hb:=zq s i
   obtain⟨e',r1,r2⟩:=Dm s hs h n (i+1) (yk c (yq s i)) (by omega) (yX hc hb)
   obtain⟨e1,q1,q2,q3,q4⟩:=Dl (.str s) (.int .i64 i) h 8 (c^^^yq s i) 0 rfl (zH hc (by omega))
   have q1':Lp AP.A [0,1,5,6] AP.f111L0 [(0,.int .u32 (c^^^yq s i:Nat)),(1,.str s),(5,.int .i64 i),(6,.int .i64 0)] h=some (.exit 2,e1,h):=q1
   clear q1
   have x1:=yu hc (show yq s i<4294967296 by omega)
   have n1:((i+1:Nat):Int)=(i:Int)+1:=by omega
   refine⟨e',td ?_ r1,r2⟩
   rw[n1]
   unfold yk
   simp (disch:=omega)only[go_sem,vq,AP.f111L1,wu,x1,rV,q1',q2,q3,q4]
theorem PR (h:H) (s:ByteArray) (c:Nat) (hc:c<4294967296) (hs:s.size<1125899906842624):aS AP.A 111 [.int .u32 c,.str s] h=some (.int .u32 (xV s s.size 0 c:Nat),h):=by
 obtain⟨e',r1,r2⟩:=Dm s hs h.eh s.size 0 c (by omega) hc
 have r1':Lp AP.A [0,1,5] AP.f111L1 [(0,.int .u32 c),(1,.str s),(5,.int .i64 0)] h.eh=some (.exit 0,e',h.eh):=r1
 clear r1
 refine tQ (fn:=AP.f111) (h2:=h.eh) (e:=[(4,.int .u32 (xV s s.size 0 c:Nat))]) rfl rfl rfl ?_ rfl rfl
 simp (disch:=omega)only[go_sem,vq,AP.f111,rV,r1',r2]
theorem Fl (h:H) (s:ByteArray) (hs:s.size<1125899906842624):aS AP.A 101 [.str s] h=some (.int .i64 (xG s:Nat),h):=by
 have k1:=PR h.eh s 4294967295 (by omega) hs
 have k1':aS AP.A 111 [.int .u32 4294967295,.str s] h.eh=some (.int .u32 (xV s s.size 0 4294967295:Nat),h.eh):=k1
 have lt:=AL s s.size 0 (c:=4294967295) (by omega)
 have v2:∀g:H,sJ g (.int .u32 (xV s s.size 0 4294967295:Nat))=some (.int .u32 (xG s:Nat),g):=fun g=>DG lt
 have lt2:=B0 0 s
 unfold xG at v2 ⊢
 refine tQ (fn:=AP.f101) (h2:=h.eh) (e:=[(2,.int .i64 (xh 0 s:Nat))]) rfl rfl rfl ?_ rfl rfl
 simp (disch:=omega)only[go_sem,vq,AP.f101,k1',v2]
theorem Je {a s:Nat} (hs:s≤64):o4 .shr .i64 (a:Int) (s:Int)=some (.int .i64 ((a/2^s:Nat):Int)):=by
 unfold o4
 rw[if_neg (by omega)]
 simp only[IntKind.bits,U3,Nat.min_eq_left hs]
 rw[Int.fdiv_eq_ediv_of_nonneg _ (Int.pow_nonneg (by omega))]
 simp
theorem Jz (n:Nat):IntKind.wrap .u8 (n:Int)=((n%256:Nat):Int):=by rw[Jy];omega
def Ix (x i:Nat):Nat:=x/2^(8* i)%256
def vY (x k:Nat):List Nat:=(List.range k).map (Ix x)
theorem Hr (x k:Nat):vY x (k+1)=vY x k++[Ix x k]:=by simp [vY,List.range_succ]
theorem vV (x k:Nat):(vY x k).length=k:=by simp [vY]
def Iw (x k:Nat):ByteArray:=bytesOf (vY x k)
theorem HR {h:H} {v:AV} {k:Nat} {l:List Nat} (o:vT 1 h v k (zj l)):tH h v (aT h 1 v)=some (.str (bytesOf l),h):=by
 rw[o.rd.1]
 simp only[tH,uG,Ds]
 rcases o.2 with ⟨rfl,_⟩|⟨id,rfl,_⟩<;>rfl
theorem zY (a b:List Nat):zj (a++b)=zj a++zj b:=by simp [zj]
theorem EG (x k id:Nat) (hk:k≤8):∀(m i:Nat) (h:H),i+m=k→h.get id=some (zj (vY x i++List.replicate m 0))→h.floor≤id→
 ∃e' h',Lp AP.A [0,5,10,11] AP.f104L0 [(0,.int .i64 x),(5,.aF id 0 k 1),(10,.int .i64 k),(11,.int .i64 i)] h=some (.exit 0,e',h')∧look e' 5=.aF id 0 k 1∧h'.get id=some (zj (vY x k))∧h'.floor=h.floor
 | 0, i, h, hi, hg, hf => by
   obtain rfl:i=k:=by omega
   refine⟨[(0,.int .i64 x),(5,.aF id 0 i 1),(10,.int .i64 i),(11,.int .i64 i),(12,.bool false)],h,tc ?_,rfl,by simpa using hg,rfl⟩
   simp (disch:=omega)only[go_sem,vq,AP.f104L0]
 | m + 1, i, h, hi, hg, hf => by
   have g2:(h.set id (zj (vY x (i+1)++List.replicate m 0))).get id=some (zj (vY x (i+1)++List.replicate m 0)):=by rw[vH rfl,hg];rfl
   obtain⟨e',h',r1,r2,r3,r4⟩:=EG x k id hk m (i+1) _ (by omega) g2 (by simpa using hf)
   have n1:((i+1:Nat):Int)=(i:Int)+1:=by omega
   have n2:(8:Int)* (i:Int)=((8* i:Nat):Int):=by omega
   have s1:=Je (a:=x) (s:=8* i) (by omega)
   have w1:=Jz (x/2^(8* i))
   have st:tS h id i 1 [.int .u8 ((x/2^(8* i)%256:Nat):Int)] (some (zj (vY x i++List.replicate (m+1) 0)))=some (h.set id (zj (vY x (i+1)++List.replicate m 0))):=by
    rw[uk hf (by simp [vV]) rfl]
    congr 2
    rw[Hr,zY,zY,zY,List.set_append_right _ _ (by simp [vV]),List.append_assoc]
    simp [vV,zj,List.replicate_succ,Ix]
   refine⟨e',h',td ?_ r1,r2,r3,by rw[r4];simp⟩
   rw[n1]
   simp (disch:=omega)only[go_sem,vq,AP.f104L0,n2,s1,w1,hg,st]
theorem zV (h:H) (x k:Nat) (hk:k≤8) (hk0:0<k):aS AP.A 104 [.int .i64 x,.int .i64 k] h=some (.str (Iw x k),h):=by
 obtain⟨h1,eh1⟩:∃g,g=h.eh.alloc (zW k [.int .u8 0]):=⟨_,rfl⟩
 have hz:zW k [.int .u8 0]=zj (vY x 0++List.replicate k 0):=by
  unfold zW;rw[DS];simp [zj,vY]
 have g1:h1.get h.next=some (zj (vY x 0++List.replicate k 0)):=by rw[eh1,vu (by simp),hz]
 obtain⟨e',h',r1,r2,r3,r4⟩:=EG x k h.next hk k 0 h1 (by omega) g1 (by rw[eh1];simp)
 have r1':Lp AP.A [0,5,10,11] AP.f104L0 [(0,.int .i64 x),(5,.aF h.next 0 k 1),(10,.int .i64 k),(11,.int .i64 0)] h1=some (.exit 0,e',h'):=r1
 clear r1
 have o:vT 1 h' (.aF h.next 0 k 1) k (zj (vY x k)):=⟨by simp [vV],.inr ⟨h.next,rfl,r3,by rw[r4,eh1];simp,hk0⟩⟩
 have b:=HR o
 have hn:h.eh.next=h.next:=rfl
 refine tQ (fn:=AP.f104) (h2:=h') (e:=[(4,.str (Iw x k))]) rfl rfl rfl ?_ rfl rfl
 unfold Iw
 simp (disch:=omega)only[go_sem,vq,AP.f104,rV,hn,←eh1,r1',r2,b]
theorem P9 {k:IntKind} {i:Int} {n:Nat} (h:0≤i∧i<n):di (.int k i) n=some i.toNat:=by simp [di,nE,h]
def okB (b:Nat):Bool:=decide (97≤b∧b≤122∨48≤b∧b≤57∨b=46∨b=45∨b=95)
def xS (s:ByteArray):Nat→Nat→Bool
 |0,_=>false
 |n+1,i=>decide (i=yq s n)||xS s n i
def Km:ByteArray:=⟨#[97,98,99,100,101,102,103,104,105,106,107,108,109,110,111,112,113,114,115,116,117,118,119,120,121,122,48,49,50,51,52,53,54,55,56,57,46,45,95]⟩
def bT (P:Nat→Bool):List AV:=nr 256 fun i=>.bool (P i)
theorem zX (P:Nat→Bool):(bT P).length=256:=by simp [bT]
theorem Lh (P:Nat→Bool) {i:Nat} (h:i<256):(bT P)[i]?=some (.bool (P i)):=fX h
theorem Lj (s:ByteArray) (n:Nat):(bT (xS s n)).set (yq s n) (.bool true)=bT (xS s (n+1)):=by
 unfold bT
 rw[tB (zq s n)]
 congr 1
 funext i
 have e:xS s (n+1) i=(decide (i=yq s n)||xS s n i):=rfl
 rw[e]
 unfold tU
 by_cases h:i=yq s n
 · simp [h]
 · simp [h]
theorem Qc:bT (xS Km 39)=bT okB:=by
 unfold bT nr
 refine List.map_congr_left fun i hi=> ?_
 have hi':i<256:=List.mem_range.1 hi
 have:∀i,i<256→xS Km 39 i=okB i:=by decide+kernel
 rw[this i hi']
theorem B9 (g:Nat→Option (List AV)) (fl n:Nat) (t:Bool):∀l:List Bool,fP (snap g fl (n+1) t) (l.map .bool)=some (l.map .bool)
 |[]=>rfl
 | b :: l => by
   have:=B9 g fl n t l
   simp only[UL,fP,this];rfl
theorem Kg (g:Nat→Option (List AV)) (fl n:Nat) (t:Bool) (P:Nat→Bool):fP (snap g fl (n+1) t) (bT P)=some (bT P):=by
 have e:bT P=((List.range 256).map P).map .bool:=by unfold bT nr;rw[U6];rfl
 rw[e];exact B9 g fl n t _
theorem HS (e:Env):aZ e (.alloc [.bool false,.bool false,.bool false,.bool false,.bool false,.bool false,.bool false,.bool false,.bool false,.bool false,.bool false,.bool false,.bool false,.bool false,.bool false,.bool false,.bool false,.bool false,.bool false,.bool false,.bool false,.bool false,.bool false,.bool false,.bool false,.bool false,.bool false,.bool false,.bool false,.bool false,.bool false,.bool false,.bool false,.bool false,.bool false,.bool false,.bool false,.bool false,.bool false,.bool false,.bool false,.bool false,.bool false,.bool false,.bool false,.bool false,.bool false,.bool false,.bool false,.bool false,.bool false,.bool false,.bool false,.bool false,.bool false,.bool false,.bool false,.bool false,.bool false,.bool false,.bool false,.bool false,.bool false,.bool false,.bool false,.bool false,.bool false,.bool false,.bool false,.bool false,.bool false,.bool false,.bool false,.bool false,.bool false,.bool false,.bool false,.bool false,.bool false,.bool false,.bool false,.bool false,.bool false,.bool false,.bool false,.bool false,.bool false,.bool false,.bool false,.bool false,.bool false,.bool false,.bool false,.bool false,.bool false,.bool false,.bool false,.bool false,.bool false,.bool false,.bool false,.bool false,.bool false,.bool false,.bool false,.bool false,.bool false,.bool false,.bool false,.bool false,.bool false,.bool false,.bool false,.bool false,.bool false,.bool false,.bool false,.bool false,.bool false,.bool false,.bool false,.bool false,.bool false,.bool false,.bool false,.bool false,.bool false,.bool false,.bool false,.bool false,.bool false,.bool false,.bool false,.bool false,.bool false,.bool false,.bool false,.bool false,.bool false,.bool false,.bool false,.bool false,.bool false,.bool false,.bool false,.bool false,.bool false,.bool false,.bool false,.bool false,.bool false,.bool false,.bool false,.bool false,.bool false,.bool false,.bool false,.bool false,.bool false,.bool false,.bool false,.bool false,.bool false,.bool false,.bool false,.bool false,.bool false,.bool false,.bool false,.bool false,.bool false,.bool false,.bool false,.bool false,.bool false,.bool false,.bool false,.bool false,.bool false,.bool false,.bool false,.bool false,.bool false,.bool false,.bool false,.bool false,.bool false,.bool false,.bool false,.bool false,.bool false,.bool false,.bool false,.bool false,.bool false,.bool false,.bool false,.bool false,.bool false,.bool false,.bool false,.bool false,.bool false,.bool false,.bool false,.bool false,.bool false,.bool false,.bool false,.bool false,.bool false,.bool false,.bool false,.bool false,.bool false,.bool false,.bool false,.bool false,.bool false,.bool false,.bool false,.bool false,.bool false,.bool false,.bool false,.bool false,.bool false,.bool false,.bool false,.bool false,.bool false,.bool false,.bool false,.bool false,.bool false,.bool false,.bool false,.bool false,.bool false,.bool false,.bool false,.bool false,.bool false,.bool false,.bool false,.bool false,.bool false,.bool false,.bool false,.bool false,.bool false,.bool false,.bool false,.bool false,.bool false,.bool false])=some (bT fun _=>false,fun i=>.aE i 0):=rfl
theorem Gf (s:ByteArray) (hs:s.size<100000) (h7:∀i,i<s.size→yq s i<128) (id:Nat):∀(m n:Nat) (h:H),n+m=s.size→h.get id=some (bT (xS s n))→h.floor≤id→
 ∃e' h',Lp AP.A [0,2,4] AP.f127L0 [(0,.str s),(2,.aE id 0),(4,.int .i64 n)] h=some (.exit 0,e',h')∧look e' 2=.aE id 0∧h'.get id=some (bT (xS s s.size))∧h'.floor=h.floor
 | 0, n, h, hn, hg, hf => by
   obtain rfl:n=s.size:=by omega
   refine⟨[(0,.str s),(2,.aE id 0),(4,.int .i64 s.size),(9,.bool false)],h,tc ?_,rfl,hg,rfl⟩
   simp (disch:=omega)only[go_sem,vq,AP.f127L0]
 | m + 1, n, h, hn, hg, hf => by
   have g2:(h.set id (bT (xS s (n+1)))).get id=some (bT (xS s (n+1))):=by rw[vH rfl,hg];rfl
   obtain⟨e',h',r1,r2,r3,r4⟩:=Gf s hs h7 id m (n+1) _ (by omega) g2 (by simpa using hf)
   have n1:((n+1:Nat):Int)=(n:Int)+1:=by omega
   have hb:=zq s n
   have hb7:=h7 n (by omega)
   have ia:di (.int .u8 (yq s n:Nat)) 256=some (yq s n):=by rw[P9 (by omega)];rfl
   have st:tS h id (yq s n) 1 [.bool true] (some (bT (xS s n)))=some (h.set id (bT (xS s (n+1)))):=by rw[uk hf (by rw[zX];exact hb) rfl,Lj]
   refine⟨e',h',td ?_ r1,r2,r3,by rw[r4];simp⟩
   rw[n1]
   generalize bT (xS s n)=T at *
   generalize bT (xS s (n+1))=T2 at *
   simp (disch:=omega)only[go_sem,vq,AP.f127L0,ia,hg,st]
theorem w8 {h:H} {id n:Nat} {v cs:List AV} (hf:h.floor≤id) (hv:v.length=n) (hc:cs.length=n) (hs:AV.aD v=true):tS h id 0 n v (some cs)=some (h.set id v):=by
 rw[Jo]
 have e:setFrom cs 0 v=v:=by
  have:=yF cs v [] [] (by omega)
  simpa using this
 simp [hf,hv,hc,hs,e,xo]
theorem KJ (P:Nat→Bool):AV.aD (bT P)=true:=by
 have e:bT P=((List.range 256).map P).map .bool:=by unfold bT nr;rw[U6];rfl
 rw[e]
 generalize (List.range 256).map P=l
 induction l with
 |nil=>rfl
 |cons b l ih=>simp [ih]
theorem PD (P:Nat→Bool):ij true 256 (bT P) 0=some (.agg (bT P)):=by
 simp only[ij,if_true]
 rw[if_pos (by rw[zX];omega),UK,uZ (by rw[zX];omega)]
theorem Ki (h:H) (s:ByteArray) (hs:s.size<100000) (h7:∀i,i<s.size→yq s i<128):aS AP.A 127 [.str s] h=some (.bS [.agg (bT (xS s s.size)),.bool true],h):=by
 obtain⟨h1,eh1⟩:∃g,g=h.eh.alloc (bT fun _=>false):=⟨_,rfl⟩
 have g1:h1.get h.next=some (bT (xS s 0)):=by rw[eh1,vu (by simp)];rfl
 obtain⟨e',h',r1,r2,r3,r4⟩:=Gf s hs h7 h.next s.size 0 h1 (by omega) g1 (by rw[eh1];simp)
 have r1':Lp AP.A [0,2,4] AP.f127L0 [(0,.str s),(2,.aE h.next 0),(4,.int .i64 0)] h1=some (.exit 0,e',h'):=r1
 clear r1
 obtain⟨h2,eh2⟩:∃g,g=h'.set h.next (bT (xS s s.size)):=⟨_,rfl⟩
 have st:tS h' h.next 0 256 (bT (xS s s.size)) (some (bT (xS s s.size)))=some h2:=by
  rw[w8 (by rw[r4,eh1];simp) (zX _) (zX _) (KJ _),eh2]
 have g2:h2.get h.next=some (bT (xS s s.size)):=by rw[eh2,vH rfl,r3];rfl
 have hn:h.eh.next=h.next:=rfl
 have rd:=PD (xS s s.size)
 refine tQ (fn:=AP.f127) (h2:=h2) (e:=[(2,.aE h.next 0),(3,.bool true)]) (vs:=[.agg (bT (xS s s.size)),.bool true]) rfl rfl rfl ?_ ?_ ?_
 · generalize bT (xS s s.size)=T at *
   simp (disch:=omega)only[go_sem,AP.f127,HS,hn,←eh1,rV,r1',r2,r3,rd,st]
 · simp only[AP.f127,cO,na,mO,qC,g2,sV,rd,lq,ne_eq,Nat.reduceEqDiff,not_false_eq_true]
   rfl
 · show(fP (snap h2.get h.next 15 true) [.agg (bT (xS s s.size)),.bool true]).bind _=_
   have m1:snap h2.get h.next 15 true (.agg (bT (xS s s.size)))=some (.agg (bT (xS s s.size))):=by
    unfold snap;rw[Kg];rfl
   simp only[fP,m1];rfl
theorem KP (h:H) (id b:Nat) (P:Nat→Bool) (hg:h.get id=some (bT P)) (hb:b<256):aS AP.A 132 [.aE id 0,.int .u8 b] h=some (.bool (P b),h):=by
 have ia:di (.int .u8 b) 256=some b:=by rw[P9 (by omega)];congr 1
 have g:=Lh P hb
 refine tw (fn:=AP.f132) (h2:=h) (e:=[(4,.bool (P b))]) (vs:=[.bool (P b)]) rfl rfl rfl ?_ rfl
 generalize bT P=T at *
 simp (disch:=omega)only[go_sem,vq,AP.f132,ia,hg,g]
theorem HQ {s:ByteArray} {n:Nat} (hn:n≤s.size):nF (.str s) none (some (.int .i64 n))=some (.str (s.extract 0 n)):=JE hn
theorem JF {s:ByteArray} {n:Nat} (hn:n≤s.size):nF (.str s) (some (.int .i64 n)) none=some (.str (s.extract n s.size)):=by
 have:ko (.int .i64 n) s.size=some n:=EW hn
 simp [nF,aC,this]
theorem Bt {s:ByteArray} {a b i:Nat} (hb:b≤s.size) (hi:a+i<b):yq (s.extract a b) i=yq s (a+i):=by
 have e:(s.extract a b)[i]?=s[a+i]?:=by
  show(s.extract a b).data[i]?=s.data[a+i]?
  rw[ByteArray.data_extract,Array.getElem?_extract]
  have:s.data.size=s.size:=rfl
  rw[if_pos (by omega)]
 unfold yq;rw[e]
theorem AB {s:ByteArray} {a b:Nat} (hb:b≤s.size):(s.extract a b).size=b-a:=by simp [ByteArray.size_extract];omega
theorem F7 (s:ByteArray):s.extract 0 s.size=s:=by
 apply ByteArray.ext
 rw[ByteArray.data_extract]
 exact Array.extract_size
theorem JX (s:ByteArray) {n m:Nat} (hm:m≤n):(s.extract 0 n).extract 0 m=s.extract 0 m:=by
 apply ByteArray.ext
 rw[ByteArray.data_extract,ByteArray.data_extract,ByteArray.data_extract,Array.extract_extract]
 simp [hm]
theorem Co (id : Nat) (P : Nat → Bool) (h : H) (hg : h.get id = some (bT P)) : ∀ (n : Nat) (s : ByteArray), s.size = n → n < 100000 →
 ∃e' m,Lp AP.A [0,1] AP.f129L0 [(0,.str s),(1,.aE id 0)] h=some (.exit 0,e',h)∧look e' 0=.str (s.extract 0 m)∧m≤s.size∧(∀i,m≤i→i<s.size→P (yq s i)=true)∧(0<m→P (yq s (m-1))=false)
 | 0, s, hs, hn => by
   refine⟨[(0,.str s),(1,.aE id 0),(7,.bool false)],0,tc ?_, ?_,by omega,fun i h1 h2=>by omega,fun q=>by omega⟩
   · simp (disch:=omega)only[go_sem,vq,AP.f129L0]
   · show AV.str s=_
     congr 1
     have:=F7 s
     rw[hs]at this
     exact this.symm
 | n + 1, s, hs, hn => by
   have hb:=zq s n
   have k1:=KP h id (yq s n) P hg hb
   have n1:(s.size:Int)-1=(n:Int):=by omega
   have sl:=HQ (s:=s) (n:=n) (by omega)
   by_cases c:P (yq s n)=true
   · rw [c] at k1
     obtain⟨e',m,r1,r2,r3,r4,r5⟩:=Co id P h hg n (s.extract 0 n) (by rw[AB (by omega)];omega) (by omega)
     rw[AB (by omega)]at r3 r4
     refine⟨e',m,td ?_ r1, ?_,by omega,fun i h1 h2=> ?_,fun q=> ?_⟩
     · simp (disch:=omega)only[go_sem,vq,AP.f129L0,n1,k1,sl]
     · rw[r2];congr 1;exact JX s r3
     · by_cases hi:i=n
       · rw[hi];exact c
       · have:=r4 i h1 (by omega)
         rwa [Bt (by omega) (by omega),uP]at this
     · have:=r5 q
       rwa [Bt (by omega) (by omega),uP]at this
   · have c':P (yq s n)=false:=by simpa using c
     rw[c']at k1
     refine⟨[(0,.str s),(1,.aE id 0),(15,.bool true)],s.size,tc ?_, ?_,uK _,fun i h1 h2=>by omega,fun q=>by rw[hs];exact c'⟩
     · simp (disch:=omega)only[go_sem,vq,AP.f129L0,n1,k1]
     · show AV.str s=_
       congr 1
       exact(F7 s).symm
theorem Nl (s:ByteArray) {n:Nat} (h:s.size=n+1):(s.extract 1 s.size).size=n:=by rw[AB (uK _)];omega
theorem CX (id : Nat) (P : Nat → Bool) (h : H) (hg : h.get id = some (bT P)) : ∀ (n : Nat) (s : ByteArray), s.size = n → n < 100000 → (0 < n → P (yq s (n - 1)) = false) →
 ∃e' r,Lp AP.A [0,1] AP.f128L0 [(0,.str s),(1,.aE id 0)] h=some (.exit 0,e',h)∧look e' 0=.str r∧(r.size=0↔n=0)
 | 0, s, hs, hn, hp => by
   refine⟨[(0,.str s),(1,.aE id 0),(7,.bool false)],s,tc ?_,rfl,by omega⟩
   simp (disch:=omega)only[go_sem,vq,AP.f128L0]
 | n + 1, s, hs, hn, hp => by
   have hb:=zq s 0
   have k1:=KP h id (yq s 0) P hg hb
   have sl:nF (.str s) (some (.int .i64 1)) none=some (.str (s.extract 1 s.size)):=JF (s:=s) (n:=1) (by omega)
   have ix:mg (.str s) (.int .i64 0)=some (.int .u8 (yq s 0:Nat)):=Bv (by omega)
   by_cases c:P (yq s 0)=true
   · rw[c]at k1
     have hn0:n≠0:=fun e=>by subst e;have:=hp (by omega);simp only[uP,Nat.sub_self]at this;rw[c]at this;cases this
     obtain⟨e',r,r1,r2,r3⟩:=CX id P h hg n (s.extract 1 s.size) (Nl s hs) (by omega) (fun q=>by
      rw[Bt (uK _) (by omega),show 1+(n-1)=n+1-1 by omega];exact hp (by omega))
     refine⟨e',r,td ?_ r1,r2,by omega⟩
     clear hp
     simp (disch:=omega)only[go_sem,dt,df,Ah,AP.f128L0,k1,sl,ix,UG,UP]
   · have c':P (yq s 0)=false:=by simpa using c
     rw[c']at k1
     refine⟨[(0,.str s),(1,.aE id 0),(12,.bool true)],s,tc ?_,rfl,by omega⟩
     clear hp
     simp (disch:=omega)only[go_sem,dt,df,Ah,AP.f128L0,k1,sl,ix,UG,UP]
def Ai (s:ByteArray):Bool:=(List.range s.size).all fun i=>okB (yq s i)
theorem Cd:Km.size=39:=rfl
theorem Li:bT (xS Km Km.size)=bT okB:=Qc
theorem SY (h:H) (s:ByteArray) (id:Nat) (P:Nat→Bool) (hg:h.get id=some (bT P)) (hs:s.size<100000) (hp:0<s.size→P (yq s (s.size-1))=false):∃r,aS AP.A 128 [.str s,.aE id 0] h=some (.str r,h)∧(r.size=0↔s.size=0):=by
 obtain⟨e',r,r1,r2,r3⟩:=CX id P h hg s.size s rfl hs hp
 refine⟨r,tw (fn:=AP.f128) (h2:=h) (e:=[(4,.str r)]) (vs:=[.str r]) rfl rfl rfl ?_ rfl,r3⟩
 clear hp
 simp only[go_sem,AP.f128,rV,r1,r2]
theorem SZ (h:H) (s:ByteArray) (id:Nat) (P:Nat→Bool) (hg:h.get id=some (bT P)) (hs:s.size<100000):
 ∃m,aS AP.A 129 [.str s,.aE id 0] h=some (.str (s.extract 0 m),h)∧m≤s.size∧(∀i,m≤i→i<s.size→P (yq s i)=true)∧(0<m→P (yq s (m-1))=false):=by
 obtain⟨e',m,r1,r2,r3,r4,r5⟩:=Co id P h hg s.size s rfl hs
 refine⟨m,tw (fn:=AP.f129) (h2:=h) (e:=[(4,.str (s.extract 0 m))]) (vs:=[.str (s.extract 0 m)]) rfl rfl rfl ?_ rfl,r3,r4,r5⟩
 simp only[go_sem,AP.f129,rV,r1,r2]
theorem DX {a b:ByteArray} (h:a≠b):(a.data.toList==b.data.toList)=false:=by
 rw[beq_eq_false_iff_ne]
 intro e
 apply h
 apply ByteArray.ext
 exact Array.toList_inj.1 e
theorem E4 (a:ByteArray):(a.data.toList==a.data.toList)=true:=by simp
theorem PQ (h : H) (s : ByteArray) (h0 : 0 < s.size) (hs : s.size < 100000) : ∃ r, aS AP.A 124 [.str s, .str Km] h = some (.str r, h) ∧ (r.size = 0 ↔ Ai s = true) := by
 have m1:=Ki h.eh Km (by rw[Cd];omega) (by rw[Cd];decide+kernel)
 rw[Li]at m1
 obtain⟨h1,eh1⟩:∃g,g=h.eh.alloc (bT fun _=>false):=⟨_,rfl⟩
 have hn:h.eh.next=h.next:=rfl
 have g1:h1.get h.next=some (bT fun _=>false):=by rw[eh1,vu (by simp)]
 obtain⟨h2,eh2⟩:∃g,g=h1.set h.next (bT okB):=⟨_,rfl⟩
 have st:tS h1 h.next 0 256 (bT okB) (some (bT fun _=>false))=some h2:=by
  rw[w8 (by rw[eh1];simp) (zX _) (zX _) (KJ _),eh2]
 have g2:h2.get h.next=some (bT okB):=by rw[eh2,vH rfl,g1];rfl
 obtain⟨m,a1,a2,a3,a4⟩:=SZ h2 s h.next okB g2 hs
 have sz:=AB (s:=s) (a:=0) (b:=m) a2
 obtain⟨r,b1,b2⟩:=SY h2 (s.extract 0 m) h.next okB g2 (by omega) (fun q=>by
  rw[sz,Nat.sub_zero,Bt a2 (by omega),uP];exact a4 (by omega))
 refine⟨r, ?_, ?_⟩
 · have e1:br .eql (.str s) (.str ⟨#[]⟩)=some (.bool false):=by
    rw[yo,DX];intro e;rw[e]at h0;exact absurd h0 (by decide)
   have e2:br .eql (.str Km) (.str ⟨#[]⟩)=some (.bool false):=by
    rw[yo,DX];intro e;have:=Cd;rw[e]at this;exact absurd this (by decide)
   have l2:ji true (.str Km)=some (.int .i64 39):=rfl
   refine tQ (fn:=AP.f124) (h2:=h2) (e:=[(4,.str r)]) rfl rfl rfl ?_ rfl rfl
   clear a3 a4
   generalize bT okB=T at *
   generalize hT:(bT fun _=>false)=T0 at *
   have ba:∀e:Env,aZ e (.alloc [.bool false,.bool false,.bool false,.bool false,.bool false,.bool false,.bool false,.bool false,.bool false,.bool false,.bool false,.bool false,.bool false,.bool false,.bool false,.bool false,.bool false,.bool false,.bool false,.bool false,.bool false,.bool false,.bool false,.bool false,.bool false,.bool false,.bool false,.bool false,.bool false,.bool false,.bool false,.bool false,.bool false,.bool false,.bool false,.bool false,.bool false,.bool false,.bool false,.bool false,.bool false,.bool false,.bool false,.bool false,.bool false,.bool false,.bool false,.bool false,.bool false,.bool false,.bool false,.bool false,.bool false,.bool false,.bool false,.bool false,.bool false,.bool false,.bool false,.bool false,.bool false,.bool false,.bool false,.bool false,.bool false,.bool false,.bool false,.bool false,.bool false,.bool false,.bool false,.bool false,.bool false,.bool false,.bool false,.bool false,.bool false,.bool false,.bool false,.bool false,.bool false,.bool false,.bool false,.bool false,.bool false,.bool false,.bool false,.bool false,.bool false,.bool false,.bool false,.bool false,.bool false,.bool false,.bool false,.bool false,.bool false,.bool false,.bool false,.bool false,.bool false,.bool false,.bool false,.bool false,.bool false,.bool false,.bool false,.bool false,.bool false,.bool false,.bool false,.bool false,.bool false,.bool false,.bool false,.bool false,.bool false,.bool false,.bool false,.bool false,.bool false,.bool false,.bool false,.bool false,.bool false,.bool false,.bool false,.bool false,.bool false,.bool false,.bool false,.bool false,.bool false,.bool false,.bool false,.bool false,.bool false,.bool false,.bool false,.bool false,.bool false,.bool false,.bool false,.bool false,.bool false,.bool false,.bool false,.bool false,.bool false,.bool false,.bool false,.bool false,.bool false,.bool false,.bool false,.bool false,.bool false,.bool false,.bool false,.bool false,.bool false,.bool false,.bool false,.bool false,.bool false,.bool false,.bool false,.bool false,.bool false,.bool false,.bool false,.bool false,.bool false,.bool false,.bool false,.bool false,.bool false,.bool false,.bool false,.bool false,.bool false,.bool false,.bool false,.bool false,.bool false,.bool false,.bool false,.bool false,.bool false,.bool false,.bool false,.bool false,.bool false,.bool false,.bool false,.bool false,.bool false,.bool false,.bool false,.bool false,.bool false,.bool false,.bool false,.bool false,.bool false,.bool false,.bool false,.bool false,.bool false,.bool false,.bool false,.bool false,.bool false,.bool false,.bool false,.bool false,.bool false,.bool false,.bool false,.bool false,.bool false,.bool false,.bool false,.bool false,.bool false,.bool false,.bool false,.bool false,.bool false,.bool false,.bool false,.bool false,.bool false,.bool false,.bool false,.bool false,.bool false,.bool false,.bool false,.bool false,.bool false,.bool false,.bool false,.bool false,.bool false,.bool false,.bool false,.bool false,.bool false,.bool false,.bool false,.bool false,.bool false,.bool false,.bool false,.bool false])=some (T0,fun i=>.aE i 0):=fun e=>by rw[HS,hT]
   simp (disch:=omega)only[go_sem,AP.f124,ba,hn,←eh1,e1,e2,l2,Nk,m1,g1,st,a1,b1]
 · rw [b2, sz]
   unfold Ai
   rw[UY]
   constructor
   · intro q i hi
     exact a3 i (by omega) (List.mem_range.1 hi)
   · intro q
     by_cases hm:m=0
     · omega
     · have:=a4 (by omega)
       rw[q (m-1) (List.mem_range.2 (by omega))]at this
       cases this
def H8:ByteArray:=⟨#[46]⟩
def Es:ByteArray:=⟨#[46,46]⟩
def wz (s:ByteArray):Bool:=decide (1≤s.size)&&(decide (s.size≤8)&&(Ai s&&(!(s.data.toList==H8.data.toList)&& !(s.data.toList==Es.data.toList))))
theorem II (h : H) (s : ByteArray) (hs : s.size < 1125899906842624) : aS AP.A 121 [.str s] h = some (.bool (wz s), h) := by
 refine tQ (fn:=AP.f121) (h2:=h.eh) (e:=[(2,.bool (wz s))]) rfl rfl rfl ?_ rfl rfl
 unfold wz
 by_cases c1:1≤s.size
 · by_cases c2:s.size≤8
   · obtain⟨r,t1,t2⟩:=PQ h.eh s (by omega) (by omega)
     have t1':aS AP.A 124 [.str s,.str ⟨#[97,98,99,100,101,102,103,104,105,106,107,108,109,110,111,112,113,114,115,116,117,118,119,120,121,122,48,49,50,51,52,53,54,55,56,57,46,45,95]⟩] h.eh=some (.str r,h.eh):=t1
     have e1:br .eql (.str r) (.str ⟨#[]⟩)=some (.bool (Ai s)):=by
      rw[yo]
      by_cases q:Ai s=true
      · rw[q]
        have:r=⟨#[]⟩:=by
         apply ByteArray.ext
         exact Array.size_eq_zero_iff.1 (t2.2 q)
        rw[this,E4]
      · have q':Ai s=false:=by simpa using q
        rw[q',DX]
        intro e
        rw[e]at t2
        exact q (t2.1 rfl)
     have e2:br .neq (.str s) (.str ⟨#[46]⟩)=some (.bool (!(s.data.toList==H8.data.toList))):=AD _ _
     have e3:br .neq (.str s) (.str ⟨#[46,46]⟩)=some (.bool (!(s.data.toList==Es.data.toList))):=AD _ _
     clear t1 t2
     generalize (!(s.data.toList==H8.data.toList))=B2 at *
     generalize (!(s.data.toList==Es.data.toList))=B3 at *
     generalize Ai s=B1 at *
     cases B1<;>cases B2<;>cases B3<;>simp (disch:=omega)only[go_sem,vq,AP.f121,t1',e1,e2,e3]
   · simp (disch:=omega)only[go_sem,vq,AP.f121]
 · simp (disch:=omega)only[go_sem,vq,AP.f121]
theorem Gl (b:Nat):okB b=true↔97≤b∧b≤122∨48≤b∧b≤57∨b=46∨b=45∨b=95:=by simp [okB]
def xX (s:ByteArray):Nat→Nat→Bool
 |0,_=>true
 |n+1,i=>okB (yq s i)&&xX s n (i+1)
theorem BD (s:ByteArray):∀n i,xX s n i=(List.range n).all fun j=>okB (yq s (i+j))
 |0,_=>rfl
 | n + 1, i => by
   rw[xX,BD s n (i+1),List.range_succ_eq_map,List.all_cons,List.all_map]
   simp only[UZ]
   congr 1
   refine U2 (fun f=>(List.range n).all f) ?_
   funext j
   simp only[Function.comp,Nat.succ_eq_add_one]
   rw[show i+(j+1)=i+1+j by omega]
theorem Gi (s : ByteArray) (hs : s.size < 100000) (h : H) : ∀ (n i : Nat), i + n = s.size →
 (∃e',Lp AP.A [0,3] AP.f173L0 [(0,.str s),(3,.int .i64 i)] h=some (.exit 0,e',h)∧xX s n i=true)∨
 (∃e',Lp AP.A [0,3] AP.f173L0 [(0,.str s),(3,.int .i64 i)] h=some (.ret,e',h)∧look e' 2=.bool false∧xX s n i=false)
 | 0, i, hi => by
   left
   refine⟨[(0,.str s),(3,.int .i64 i),(24,.bool false)],tc ?_,rfl⟩
   simp (disch:=omega)only[go_sem,vq,AP.f173L0]
 | n + 1, i, hi => by
   have hb:=zq s i
   have n1:((i+1:Nat):Int)=(i:Int)+1:=by omega
   have ix:mg (.str s) (.int .i64 i)=some (.int .u8 (yq s i:Nat)):=by rw[Bv (by omega),wO]
   by_cases c:okB (yq s i)=true
   · have e:xX s (n+1) i=xX s n (i+1):=by simp [xX,c]
     rw[e]
     have ih:=Gi s hs h n (i+1) (by omega)
     rw[Gl]at c
     generalize yq s i=b at *
     have step:aM (aS AP.A) bD AP.f173L0 (ay [(0,.str s),(3,.int .i64 i)] [0,3]) h=some (.normal,[(0,.str s),(3,.int .i64 ((i:Int)+1))],h):=by
      clear ih e
      rcases c with c|c|c|c|c
      · simp (disch:=omega)only[go_sem,vq,AP.f173L0,ix]
      · simp (disch:=omega)only[go_sem,vq,AP.f173L0,ix]
      · simp (disch:=omega)only[go_sem,vq,AP.f173L0,ix]
      · simp (disch:=omega)only[go_sem,vq,AP.f173L0,ix]
      · simp (disch:=omega)only[go_sem,vq,AP.f173L0,ix]
     rw[n1]at ih
     rcases ih with ⟨e',r1,r2⟩|⟨e',r1,r2,r3⟩
     · exact .inl ⟨e',td step r1,r2⟩
     · exact .inr ⟨e',td step r1,r2,r3⟩
   · right
     refine⟨[(2,.bool false)],tF ?_,rfl,by simp [xX,c]⟩
     rw[Gl]at c
     generalize yq s i=b at *
     have c1:¬(97≤b∧b≤122):=by omega
     have c2:¬(48≤b∧b≤57):=by omega
     have c3:¬b=46:=by omega
     have c4:¬b=45:=by omega
     have c5:¬b=95:=by omega
     clear c
     by_cases d1:b<97
     · by_cases d2:b<48
       · clear c1 c2;simp (disch:=omega)only[go_sem,vq,AP.f173L0,ix]
       · have:57<b:=by omega
         clear c1 c2;simp (disch:=omega)only[go_sem,vq,AP.f173L0,ix]
     · have:122<b:=by omega
       have d2:¬b<48:=by omega
       clear c1 c2;simp (disch:=omega)only[go_sem,vq,AP.f173L0,ix]
theorem Kl (h : H) (s : ByteArray) (hs : s.size < 1125899906842624) : aS AP.A 173 [.str s] h = some (.bool (wz s), h) := by
 have e2:br .eql (.str s) (.str ⟨#[46]⟩)=some (.bool (s.data.toList==H8.data.toList)):=yo _ _
 have e3:br .eql (.str s) (.str ⟨#[46,46]⟩)=some (.bool (s.data.toList==Es.data.toList)):=yo _ _
 unfold wz
 generalize (s.data.toList==H8.data.toList)=B2 at *
 generalize (s.data.toList==Es.data.toList)=B3 at *
 by_cases c1:s.size<1
 · refine tQ (fn:=AP.f173) (h2:=h.eh) (e:=[(2,.bool false)]) rfl rfl rfl ?_ rfl (by rw[UB (show¬1≤s.size by omega)];rfl)
   simp (disch:=omega)only[go_sem,vq,AP.f173]
 by_cases c2:8<s.size
 · refine tQ (fn:=AP.f173) (h2:=h.eh) (e:=[(2,.bool false)]) rfl rfl rfl ?_ rfl (by rw[UB (show¬s.size≤8 by omega),UJ,UM];rfl)
   simp (disch:=omega)only[go_sem,vq,AP.f173]
 rw[UC (show 1≤s.size by omega),UC (show s.size≤8 by omega),UQ,UQ]
 cases B2 with
 | true =>
   refine tQ (fn:=AP.f173) (h2:=h.eh) (e:=[(2,.bool false)]) rfl rfl rfl ?_ rfl (by rw[Bool.not_true,UJ,UM];rfl)
   simp (disch:=omega)only[go_sem,vq,AP.f173,e2]
 | false =>
   cases B3 with
   | true =>
     refine tQ (fn:=AP.f173) (h2:=h.eh) (e:=[(2,.bool false)]) rfl rfl rfl ?_ rfl (by rw[Bool.not_true,UM,UM];rfl)
     simp (disch:=omega)only[go_sem,vq,AP.f173,e2,e3]
   | false =>
     have ea:Ai s=xX s s.size 0:=by rw[BD];simp [Ai]
     rw[ea]
     rcases Gi s (by omega) h.eh s.size 0 (by omega)with ⟨e',r1,r2⟩|⟨e',r1,r2,r3⟩
     · have r1':Lp AP.A [0,3] AP.f173L0 [(0,.str s),(3,.int .i64 0)] h.eh=some (.exit 0,e',h.eh):=r1
       clear r1
       rw[r2]
       refine tQ (fn:=AP.f173) (h2:=h.eh) (e:=[(2,.bool true)]) rfl rfl rfl ?_ rfl rfl
       simp (disch:=omega)only[go_sem,vq,AP.f173,e2,e3,rV,r1']
     · have r1':Lp AP.A [0,3] AP.f173L0 [(0,.str s),(3,.int .i64 0)] h.eh=some (.ret,e',h.eh):=r1
       clear r1
       rw[r3]
       refine tQ (fn:=AP.f173) (h2:=h.eh) (e:=e') (vs:=[.bool false]) rfl rfl rfl ?_ (by simp only[AP.f173,cO,na,r2];rfl) rfl
       simp (disch:=omega)only[go_sem,vq,AP.f173,e2,e3,rV,r1']
structure Tok where
 lit:Int
 len:Int
 TR:Int
deriving DecidableEq
def Ext (h g:H):Prop:=∀id c,h.get id=some c→g.get id=some c
theorem Ext.refl (h:H):Ext h h:=fun _ _ q=>q
theorem Ext.trans {a b c:H} (x:Ext a b) (y:Ext b c):Ext a c:=fun i d q=>y i d (x i d q)
theorem Ext.alloc {a h:H} (x:Ext a h) (cs:List AV):Ext a (h.alloc cs):=fun i d q=>by
 have:=h.lt _ _ (x i d q)
 rw[H.aX,if_neg (by omega)];exact x i d q
theorem Ext.set {a h:H} (x:Ext a h) {id:Nat} (hid:a.next≤id) (cs:List AV):Ext a (h.set id cs):=fun i d q=>by
 have:=a.lt _ _ q
 rw[H.dI,if_neg (by omega)];exact x i d q
def wY (n:Int):Bool:=decide (0≤n)&&decide (n≤1048576)
theorem F1 (h:H) (n:Int):aS AP.A 119 [.int .i64 n] h=some (.bool (wY n),h):=by
 refine tQ (fn:=AP.f119) (h2:=h.eh) (e:=[(2,.bool (wY n))]) rfl rfl rfl ?_ rfl rfl
 unfold wY
 by_cases c1:0≤n<;>by_cases c2:n≤1048576<;>simp (disch:=omega)only[go_sem,vq,AP.f119]
def wL (n:Int):Bool:=decide (0≤n)&&decide (n<4)
theorem Cc (h:H) (n:Int):aS AP.A 120 [.int .i64 n] h=some (.bool (wL n),h):=by
 refine tQ (fn:=AP.f120) (h2:=h.eh) (e:=[(2,.bool (wL n))]) rfl rfl rfl ?_ rfl rfl
 unfold wL
 by_cases c1:0≤n<;>by_cases c2:n<4<;>simp (disch:=omega)only[go_sem,vq,AP.f120]
def GH (v:AV):Bool:=match v with| .int .i64 n=> !wY n|_=>false
theorem HA (h:H) (n:Int):aS AP.A 123 [.int .i64 n] h=some (.bool (!wY n),h):=by
 have k1:=F1 h.eh n
 refine tQ (fn:=AP.f123) (h2:=h.eh) (e:=[(2,.bool (!wY n))]) rfl rfl rfl ?_ rfl rfl
 simp (disch:=omega)only[go_sem,vq,AP.f123,k1]
def xa (l:List Int):Bool:=decide (l.length=4)&&l.all wY
theorem Ba:∀l:List Int,(ints l).any GH= !l.all wY
 |[]=>rfl
 | n :: l => by
   have:=Ba l
   simp only[ints,UL,List.any_cons,List.all_cons,Bool.not_and]at *
   rw[this];rfl
theorem GL (h:H) (v:AV) (l:List Int) (rd:Rd h v (ints l)) (hl:l.length<1125899906842624):aS AP.A 117 [v] h=some (.bool (xa l),h):=by
 have rd':=rd.mono (vF h)
 have ln:=rd'.len
 rw[pC]at ln
 simp only[I]at ln
 refine tQ (fn:=AP.f117) (h2:=h.eh) (e:=[(2,.bool (xa l))]) rfl rfl rfl ?_ rfl rfl
 unfold xa
 by_cases c:l.length=4
 · have k1:=z4 (fv:=.fn 123 [] []) GH (fun x hx g=>by
    obtain⟨n,hn,rfl⟩:=UR.1 hx
    rw[nJ];exact HA g n) (by simp;omega) h.eh rd'
   rw[Ba]at k1
   have c':(l.length:Int)=4:=by omega
   simp (disch:=omega)only[go_sem,vq,AP.f117,ln,k1,Bool.not_not]
 · have c':¬(l.length:Int)=4:=by omega
   simp (disch:=omega)only[go_sem,vq,AP.f117,ln]
theorem Rd.wT {h:H} {v:AV} {l:List Int} (r:Rd h v (ints l)):∃ad:Int→AV,(∀i:Int,0≤i∧i<l.length→fZ 1 v (.int .i64 i)=some (ad i))∧
 ∀g:H,Ext h g→∀(i:Nat) (n:Int),l[i]?=some n→bX false 1 (ad i) g=some (.int .i64 n):=by
 have r2:=r.Ck
 rw[pC]at r2
 obtain⟨ad,a1,_,_,a3⟩:=r2.at_
 refine⟨fun i=>ad i 0,a1,fun g hg i n hn=> ?_⟩
 have hi:i<l.length:=(uF.1 hn).1
 refine(a3 g hg).1 i 0 _ ⟨by omega,by omega⟩ ?_
 rw[wO,U4,UZ]
 exact sI hn
theorem GM {v:AV} {l:List Int} (hl:l.length<1125899906842624) (h:H) (rd:Rd h v (ints l)):∀(q p:List Int),l=p++q→
 (∃e',Lp AP.A [0,3] AP.f172L0 [(0,v),(3,.int .i64 p.length)] h=some (.exit 0,e',h)∧look e' 0=v∧q.all wY=true)∨
 (∃e',Lp AP.A [0,3] AP.f172L0 [(0,v),(3,.int .i64 p.length)] h=some (.ret,e',h)∧look e' 2=.bool false∧q.all wY=false)
 | [], p, hp => by
   left
   have ln:=rd.len
   rw[pC]at ln
   simp only[I]at ln
   rw[UI]at hp;subst hp
   refine⟨[(0,v),(3,.int .i64 l.length),(7,.bool false)],tc ?_,rfl,rfl⟩
   simp (disch:=omega)only[go_sem,vq,AP.f172L0,ln]
 | n :: q, p, hp => by
   have ln:=rd.len
   rw[pC]at ln
   simp only[I]at ln
   have hlen:l.length=p.length+(q.length+1):=by rw[hp];simp
   have hv:l[p.length]?=some n:=by rw[hp];simp
   obtain⟨ad,a1,a2⟩:=rd.wT
   have b1:=a1 p.length ⟨by omega,by omega⟩
   have b2:=a2 h (Ext.refl h) _ _ hv
   have w1:((p.length:Int)+1)=(((p++[n]).length:Nat):Int):=by simp
   have ih:=GM hl h rd q (p++[n]) (by rw[hp];simp)
   rw[←w1]at ih
   rw[List.all_cons]
   clear a1 a2
   by_cases c1:n<0
   · right
     refine⟨[(2,.bool false)],tF ?_,rfl,by simp [wY];omega⟩
     clear ih w1
     simp (disch:=omega)only[go_sem,vq,AP.f172L0,ln,b1,b2]
   by_cases c2:1048576<n
   · right
     refine⟨[(2,.bool false)],tF ?_,rfl,by simp [wY];omega⟩
     clear ih w1
     simp (disch:=omega)only[go_sem,vq,AP.f172L0,ln,b1,b2]
   have cn:wY n=true:=by simp [wY];omega
   rw[cn,UQ]
   have step:aM (aS AP.A) bD AP.f172L0 (ay [(0,v),(3,.int .i64 p.length)] [0,3]) h=some (.normal,[(0,v),(3,.int .i64 ((p.length:Int)+1))],h):=by
    clear ih w1
    simp (disch:=omega)only[go_sem,vq,AP.f172L0,ln,b1,b2]
   rcases ih with ⟨e',r1,r2,r3⟩|⟨e',r1,r2,r3⟩
   · exact .inl ⟨e',td step r1,r2,r3⟩
   · exact .inr ⟨e',td step r1,r2,r3⟩
theorem FO (h:H) (v:AV) (l:List Int) (rd:Rd h v (ints l)) (hl:l.length<1125899906842624):aS AP.A 172 [v] h=some (.bool (xa l),h):=by
 have rd':=rd.mono (vF h)
 have ln:=rd'.len
 rw[pC]at ln
 simp only[I]at ln
 unfold xa
 rcases GM hl h.eh rd' l [] rfl with ⟨e',r1,r2,r3⟩|⟨e',r1,r2,r3⟩
 · have r1':Lp AP.A [0,3] AP.f172L0 [(0,v),(3,.int .i64 0)] h.eh=some (.exit 0,e',h.eh):=r1
   clear r1
   rw[r3,Bool.and_true]
   refine tQ (fn:=AP.f172) (h2:=h.eh) (e:=[(2,.bool (decide (l.length=4)))]) rfl rfl rfl ?_ rfl rfl
   by_cases c:l.length=4
   · have c':(l.length:Int)=4:=by omega
     simp (disch:=omega)only[go_sem,vq,AP.f172,ln,rV,r1',r2]
   · have c':¬(l.length:Int)=4:=by omega
     simp (disch:=omega)only[go_sem,vq,AP.f172,ln,rV,r1',r2]
 · have r1':Lp AP.A [0,3] AP.f172L0 [(0,v),(3,.int .i64 0)] h.eh=some (.ret,e',h.eh):=r1
   clear r1
   rw[r3,UM]
   refine tQ (fn:=AP.f172) (h2:=h.eh) (e:=e') (vs:=[.bool false]) rfl rfl rfl ?_ (by simp only[AP.f172,cO,na,r2];rfl) rfl
   simp (disch:=omega)only[go_sem,vq,AP.f172,ln,rV,r1',r2]
structure vN where
 name:ByteArray
 gone:Bool
 vec:List Int
 vQ:Int
 node:Int
 method:Int
 packed:ByteArray
 size:Int
 zt:Int
def vw (e:vN) (v:AV):List AV:=[.str e.name,.bool e.gone,v,.int .i64 e.vQ,.int .i64 e.node,.int .i64 e.method,.str e.packed,.int .i64 e.size,.int .i64 e.zt]
def wh (e:vN):Bool:=xa e.vec&&(decide (1≤e.vQ)&&(wY e.vQ&&wL e.node))
structure PE (h:H) (p:AV) (cs:List AV):Prop where
 nil:∀g:H,jG g p=some (p,g)
 tl:∃q:Nat→AV,(∀k,ft k p=some (q k))∧∀g:H,Ext h g→∀(k:Nat) (c:AV),cs[k]?=some c→bX false 1 (q k) g=some c
theorem Iq (h:H) (p v:AV) (e:vN) (pe:PE h p (vw e v)) (rd:Rd h v (ints e.vec)) (hl:e.vec.length<1125899906842624):aS AP.A 112 [p] h=some (.bool (wh e),h):=by
 have nl:=pe.nil
 obtain⟨q,f1,f2⟩:=pe.tl
 have l2:=f2 h (Ext.refl h) 2 v rfl
 have l3:=f2 h (Ext.refl h) 3 _ rfl
 have l4:=f2 h (Ext.refl h) 4 _ rfl
 have k1:=GL h v e.vec rd hl
 have k2:=F1 h e.vQ
 have k3:=Cc h e.node
 have c2:wY e.vQ=true→1≤e.vQ→True:=fun _ _=>trivial
 refine tw (fn:=AP.f112) (h2:=h) (e:=[(2,.bool (wh e))]) (vs:=[.bool (wh e)]) rfl rfl rfl ?_ rfl
 unfold wh
 clear pe f2 rd c2
 generalize xa e.vec=B1 at *
 generalize wY e.vQ=B2 at *
 generalize wL e.node=B3 at *
 by_cases c1:1≤e.vQ<;>cases B1<;>cases B2<;>cases B3<;>simp (disch:=omega)only[go_sem,vq,AP.f112,nl,f1,l2,l3,l4,k1,k2,k3]
theorem J9 (h : H) (v : AV) (e : vN) (rd : Rd h v (ints e.vec)) (hv : v.sc = true) (hl : e.vec.length < 1125899906842624) : aS AP.A 169 [.agg (vw e v)] h = some (.bool (wh e), h) := by
 have hx:Ext h.eh (h.eh.alloc (vw e v)):=(Ext.refl _).alloc _
 have k1:=FO (h.eh.alloc (vw e v)) v e.vec (rd.mono fun id c q=>hx id c q) hl
 have g1:(h.eh.alloc (vw e v)).get h.next=some (vw e v):=vu rfl
 have hn:h.eh.next=h.next:=rfl
 refine tQ (fn:=AP.f169) (h2:=h.eh.alloc (vw e v)) (e:=[(2,.bool (wh e))]) rfl rfl rfl ?_ rfl rfl
 have hb:∀ev:Env,look ev 0=.agg (vw e v)→aZ ev (.box 9 (.t 0))=some (vw e v,fun i=>.aE i 0):=by
  intro ev q
  simp only[aZ,rX,q,kT]
  rw[if_pos ⟨rfl,by simp [vw,hv]⟩]
 obtain⟨h1,eh1⟩:∃g,g=h.eh.alloc (vw e v):=⟨_,rfl⟩
 rw[←eh1]at k1 g1 ⊢
 have hcnt:wh e=(xa e.vec&&(decide (1≤e.vQ)&&(decide (e.vQ≤1048576)&&(decide (0≤e.node)&&decide (e.node<4))))):=by
  unfold wh wY wL
  by_cases c1:1≤e.vQ
  · rw[UC (show 0≤e.vQ by omega)];simp
  · simp [c1]
 rw[hcnt]
 clear hcnt rd hx
 generalize xa e.vec=B1 at *
 simp only[mX,mY,AP.f169]
 rw[rI,rH,sR,jb,hb _ rfl]
 simp only[mw,hn,←eh1]
 simp only[vw]at g1
 cases B1 with
 |false=>simp (disch:=omega)only[go_sem,vq,k1,g1]
 | true =>
   by_cases c1:1≤e.vQ
   · by_cases c2:e.vQ≤1048576
     · by_cases c3:0≤e.node
       · by_cases c4:e.node<4<;>simp (disch:=omega)only[go_sem,vq,k1,g1]
       · simp (disch:=omega)only[go_sem,vq,k1,g1]
     · simp (disch:=omega)only[go_sem,vq,k1,g1]
   · simp (disch:=omega)only[go_sem,vq,k1,g1]
def BZ (s:ByteArray):Bool:=s.data.toList==(⟨#[]⟩:ByteArray).data.toList
def xg (e:vN):Bool:=
 if e.gone then decide (e.method=0)&&(BZ e.packed&&(decide (e.size=0)&&decide (e.zt=0)))
 else(decide (0≤e.size)&&(decide (e.size≤300)&&z9 e.zt))&&(decide (e.method=0)&&decide ((e.packed.size:Int)=e.size)||decide (e.method=8)&&decide (e.packed.size≤300))
theorem Hb (h : H) (p v : AV) (e : vN) (pe : PE h p (vw e v)) : aS AP.A 122 [p] h = some (.bool (xg e), h) := by
 have nl:=pe.nil
 obtain⟨q,f1,f2⟩:=pe.tl
 have l1:=f2 h (Ext.refl h) 1 _ rfl
 have l5:=f2 h (Ext.refl h) 5 _ rfl
 have l6:=f2 h (Ext.refl h) 6 _ rfl
 have l7:=f2 h (Ext.refl h) 7 _ rfl
 have l8:=f2 h (Ext.refl h) 8 _ rfl
 have k1:=Kb h e.zt
 have e1:br .eql (.str e.packed) (.str ⟨#[]⟩)=some (.bool (BZ e.packed)):=yo _ _
 refine tw (fn:=AP.f122) (h2:=h) (e:=[(2,.bool (xg e))]) (vs:=[.bool (xg e)]) rfl rfl rfl ?_ rfl
 unfold xg
 clear pe f2
 generalize BZ e.packed=B1 at *
 generalize z9 e.zt=B2 at *
 cases hg:e.gone with
 | true =>
   rw[hg]at l1
   rw[if_pos rfl]
   by_cases c1:e.method=0
   · cases B1 with
     |false=>simp (disch:=omega)only[go_sem,vq,AP.f122,nl,f1,l1,l5,l6,l7,l8,e1]
     | true =>
       by_cases c2:e.size=0
       · by_cases c3:e.zt=0<;>simp (disch:=omega)only[go_sem,vq,AP.f122,nl,f1,l1,l5,l6,l7,l8,e1]
       · simp (disch:=omega)only[go_sem,vq,AP.f122,nl,f1,l1,l5,l6,l7,l8,e1]
   · simp (disch:=omega)only[go_sem,vq,AP.f122,nl,f1,l1,l5,l6,l7,l8,e1]
 | false =>
   rw[hg]at l1
   rw[if_neg (by decide)]
   by_cases c1:e.method=0
   · have c1':¬e.method=8:=by omega
     by_cases c2:(e.packed.size:Int)=e.size
     · by_cases c3:0≤e.size
       · by_cases c4:e.size≤300
         · cases B2<;>simp (disch:=omega)only[go_sem,vq,AP.f122,nl,f1,l1,l5,l6,l7,l8,e1,k1]
         · simp (disch:=omega)only[go_sem,vq,AP.f122,nl,f1,l1,l5,l6,l7,l8,e1,k1]
       · exfalso;omega
     · simp (disch:=omega)only[go_sem,vq,AP.f122,nl,f1,l1,l5,l6,l7,l8,e1,k1]
   · by_cases c0:e.method=8
     · by_cases c2:e.packed.size≤300
       · by_cases c3:0≤e.size
         · by_cases c4:e.size≤300
           · cases B2<;>simp (disch:=omega)only[go_sem,vq,AP.f122,nl,f1,l1,l5,l6,l7,l8,e1,k1]
           · simp (disch:=omega)only[go_sem,vq,AP.f122,nl,f1,l1,l5,l6,l7,l8,e1,k1]
         · simp (disch:=omega)only[go_sem,vq,AP.f122,nl,f1,l1,l5,l6,l7,l8,e1,k1]
       · simp (disch:=omega)only[go_sem,vq,AP.f122,nl,f1,l1,l5,l6,l7,l8,e1,k1]
     · simp (disch:=omega)only[go_sem,vq,AP.f122,nl,f1,l1,l5,l6,l7,l8,e1,k1]
def xE (prev:Option vN) (e:vN):Bool:=wz e.name&&((match prev with|none=>true|some p=>Op.bytesLess p.name.toList e.name.toList)&&(wh e&&xg e))
theorem Aq (e:vN):xE none e=(wz e.name&&(wh e&&xg e)):=by simp [xE]
theorem DA (p e:vN):xE (some p) e=(wz e.name&&(Op.bytesLess p.name.toList e.name.toList&&(wh e&&xg e))):=rfl
def wK:Option vN→List vN→Bool
 |_,[]=>true
 |p,e::r=>xE p e&&wK (some e) r
abbrev vG:=vN×AV
def JW (x:vG):List AV:=vw x.1 x.2
def vD (l:List vG):List AV:=l.flatMap JW
theorem zK (x:vG):(JW x).length=9:=rfl
theorem xm (l:List vG):(vD l).length=l.length* 9:=Fy zK l
structure xe (h:H) (x:vG):Prop where
 vec:Rd h x.2 (ints x.1.vec)
 vl:x.1.vec.length<1125899906842624
 nl:x.1.name.size<1125899906842624
 pl:x.1.packed.size<1125899906842624
theorem xe.mono {h g:H} {x:vG} (o:xe h x) (e:Ext h g):xe g x:=⟨o.vec.mono fun i c q=>e i c q,o.vl,o.nl,o.pl⟩
theorem GS {v : AV} {l : List vG} (hn : l.length < 1125899906842624) (h : H) (b : Nat) (hb : h.get b = some [v]) (rd : xb 9 h v l.length (vD l)) (hv : ∀ x ∈ l, xe h x) : ∀ (q p : List vG), l = p ++ q →
 (∃e',Lp AP.A [1,7,8] AP.f113L0 [(1,.aE b 0),(7,.int .i64 l.length),(8,.int .i64 p.length)] h=some (.exit 0,e',h)∧look e' 1=.aE b 0∧wK (p.getLast?.map (·.1)) (q.map (·.1))=true)∨
 (∃e',Lp AP.A [1,7,8] AP.f113L0 [(1,.aE b 0),(7,.int .i64 l.length),(8,.int .i64 p.length)] h=some (.ret,e',h)∧look e' 2=.bool false∧wK (p.getLast?.map (·.1)) (q.map (·.1))=false)
 | [], p, hp => by
   left
   rw[UI]at hp;subst hp
   refine⟨[(1,.aE b 0),(7,.int .i64 l.length),(8,.int .i64 l.length),(9,.bool false)],tc ?_,rfl,rfl⟩
   simp (disch:=omega)only[go_sem,vq,AP.f113L0]
 | x :: q, p, hp => by
   have hlen:l.length=p.length+(q.length+1):=by rw[hp];simp
   have hx:l[p.length]?=some x:=by rw[hp];simp
   have ho:=hv x (by rw[hp];simp)
   obtain⟨ad,a1,a2,a4,a3⟩:=rd.at_
   have hI:(0:Int)≤(p.length:Int)∧(p.length:Int)<l.length:=⟨by omega,by omega⟩
   have b1:=a1 _ hI
   have pe:PE h (ad p.length 0) (vw x.1 x.2):=by
    refine⟨fun g=>a4 _ 0 g hI,fun k=>ad p.length (0+k),fun k=>a2 _ 0 k hI,fun g hg k c hc=> ?_⟩
    have hk:k<9:=(uF.1 hc).1
    refine(a3 g hg).1 _ _ _ hI ?_
    rw[wO,uP,show vD l=l.flatMap JW from rfl,y3 zK hx hk];exact hc
   have k1:=II h x.1.name ho.nl
   have k2:=Iq h _ _ x.1 pe ho.vec ho.vl
   have k3:=Hb h _ _ x.1 pe
   have nl:=pe.nil
   obtain⟨qq,f1,f2⟩:=pe.tl
   have l0:=f2 h (Ext.refl h) 0 _ rfl
   have ih:=GS hn h b hb rd hv q (p++[x]) (by rw[hp];simp)
   have w1:(((p++[x]).length:Nat):Int)=(p.length:Int)+1:=by simp
   rw[w1,List.getLast?_concat]at ih
   have step : aM (aS AP.A) bD AP.f113L0 (ay [(1, .aE b 0), (7, .int .i64 l.length), (8, .int .i64 p.length)] [1, 7, 8]) h = if xE (p.getLast?.map (·.1)) x.1 then some (.normal, [(1, .aE b 0), (7, .int .i64 l.length), (8, .int .i64 ((p.length : Int) + 1))], h) else some (.ret, [(2, .bool false)], h) := by
    cases hl:p.getLast? with
    | none =>
      have hp0:p=[]:=List.getLast?_eq_none_iff.1 hl
      have hp1:p.length=0:=by rw[hp0];rfl
      clear ih w1 pe f2 a1 a2 a3 a4 hl hv hp ho hx
      rw[UP,Aq]
      generalize wz x.1.name=B1 at *
      generalize wh x.1=B3 at *
      generalize xg x.1=B4 at *
      cases B1 with
      | false =>
        rw[UJ,if_neg (by decide)]
        simp (disch:=omega)only[go_sem,vq,AP.f113L0,hb,b1,nl,f1,l0,k1,k2,k3]
      | true =>
        cases B3 with
        | false =>
          rw[UJ,UM,if_neg (by decide)]
          simp (disch:=omega)only[go_sem,vq,AP.f113L0,hb,b1,nl,f1,l0,k1,k2,k3]
        | true =>
          cases B4 with
          | false =>
            rw[UM,UM,if_neg (by decide)]
            simp (disch:=omega)only[go_sem,vq,AP.f113L0,hb,b1,nl,f1,l0,k1,k2,k3]
          | true =>
            rw[UW,UW,if_pos rfl]
            simp (disch:=omega)only[go_sem,vq,AP.f113L0,hb,b1,nl,f1,l0,k1,k2,k3]
    | some y =>
      obtain⟨p',rfl⟩:∃p',p=p'++[y]:=List.getLast?_eq_some_iff.1 hl
      have hpl:(p'++[y]).length=p'.length+1:=by simp
      have hy:l[p'.length]?=some y:=by rw[hp];simp
      have hJ:(0:Int)≤(p'.length:Int)∧(p'.length:Int)<l.length:=⟨by omega,by omega⟩
      have bj:=a1 _ hJ
      have fj:=a2 _ 0 0 hJ
      have lj:=(a3 h (Ext.refl h)).1 p'.length (0+0) (.str y.1.name) hJ (by
       rw[wO,show vD l=l.flatMap JW from rfl,uP,y3 zK hy (by omega)];rfl)
      have cmp:br .geq (.str y.1.name) (.str x.1.name)=some (.bool (!(Op.bytesLess y.1.name.toList x.1.name.toList))):=rfl
      have n2:(((p'++[y]).length:Nat):Int)-1=(p'.length:Int):=by rw[hpl];omega
      clear ih w1 pe f2 a1 a2 a3 a4 hl hv hp ho hx hy
      rw[UG,DA]
      simp only[UZ]at fj lj
      generalize Op.bytesLess y.1.name.toList x.1.name.toList=B2 at *
      generalize wz x.1.name=B1 at *
      generalize wh x.1=B3 at *
      generalize xg x.1=B4 at *
      generalize (p'++[y]).length=pl at *
      cases B1 with
      | false =>
        rw[UJ,if_neg (by decide)]
        simp (disch:=omega)only[go_sem,vq,AP.f113L0,hb,b1,nl,f1,l0,k1,k2,k3,bj,fj,lj,cmp,n2]
      | true =>
        cases B2 with
        | false =>
          rw[UJ,UM,if_neg (by decide)]
          simp (disch:=omega)only[go_sem,vq,AP.f113L0,hb,b1,nl,f1,l0,k1,k2,k3,bj,fj,lj,cmp,n2]
        | true =>
          cases B3 with
          | false =>
            rw[UJ,UM,UM,if_neg (by decide)]
            simp (disch:=omega)only[go_sem,vq,AP.f113L0,hb,b1,nl,f1,l0,k1,k2,k3,bj,fj,lj,cmp,n2]
          | true =>
            cases B4 with
            | false =>
              rw[UM,UM,UM,if_neg (by decide)]
              simp (disch:=omega)only[go_sem,vq,AP.f113L0,hb,b1,nl,f1,l0,k1,k2,k3,bj,fj,lj,cmp,n2]
            | true =>
              rw[UW,UW,UW,if_pos rfl]
              simp (disch:=omega)only[go_sem,vq,AP.f113L0,hb,b1,nl,f1,l0,k1,k2,k3,bj,fj,lj,cmp,n2]
   have hmay:wK (p.getLast?.map (·.1)) ((x::q).map (·.1))=(xE (p.getLast?.map (·.1)) x.1&&wK (some x.1) (q.map (·.1))):=rfl
   rw[hmay]
   by_cases hok:xE (p.getLast?.map (·.1)) x.1=true
   · rw[if_pos hok]at step
     rw[hok,UQ]
     rcases ih with ⟨e',r1,r2,r3⟩|⟨e',r1,r2,r3⟩
     · exact .inl ⟨e',td step r1,r2,r3⟩
     · exact .inr ⟨e',td step r1,r2,r3⟩
   · have hok':xE (p.getLast?.map (·.1)) x.1=false:=by simpa using hok
     rw[if_neg hok]at step
     rw[hok',UJ]
     exact .inr ⟨_,tF step,rfl,rfl⟩
def wR (l:List vN):Bool:=wK none l&&decide (l.length≤6)
theorem JA (h:H) (v:AV) (l:List vG) (hvs:v.sc=true) (hn:l.length<1125899906842624) (rd:xb 9 h v l.length (vD l)) (hv:∀x∈l,xe h x):aS AP.A 113 [.agg [v]] h=some (.bool (wR (l.map (·.1))),h):=by
 obtain⟨h1,eh1⟩:∃g,g=h.eh.alloc [v]:=⟨_,rfl⟩
 have hx:Ext h.eh h1:=by rw[eh1];exact(Ext.refl _).alloc _
 have hx0:Ext h h1:=fun i c q=>hx i c q
 have hn0:h.eh.next=h.next:=rfl
 have g1:h1.get h.next=some [v]:=by rw[eh1];exact vu rfl
 have rd1:=rd.mono fun i c q=>hx0 i c q
 have ln:=rd1.len
 have hb:∀ev:Env,look ev 0=.agg [v]→aZ ev (.box 1 (.t 0))=some ([v],fun i=>.aE i 0):=by
  intro ev q
  simp only[aZ,rX,q,kT]
  rw[if_pos ⟨rfl,by simp [hvs]⟩]
 unfold wR
 rcases GS hn h1 h.next g1 rd1 (fun x hx=>(hv x hx).mono hx0) l [] rfl with ⟨e',r1,r2,r3⟩|⟨e',r1,r2,r3⟩
 · have r1':Lp AP.A [1,7,8] AP.f113L0 [(1,.aE h.next 0),(7,.int .i64 l.length),(8,.int .i64 0)] h1=some (.exit 0,e',h1):=r1
   clear r1
   have r3':wK none (l.map (·.1))=true:=r3
   rw[r3',UQ,UF]
   refine tQ (fn:=AP.f113) (h2:=h1) (e:=[(2,.bool (decide (l.length≤6)))]) rfl rfl rfl ?_ rfl rfl
   clear rd rd1 hv hx hx0 r3 r3'
   simp only[mX,mY,AP.f113]
   rw[rI,rH,sR,jb,hb _ rfl]
   simp only[mw,hn0,←eh1]
   by_cases c:l.length≤6
   · simp (disch:=omega)only[go_sem,vq,g1,ln,rV,r1',r2]
   · simp (disch:=omega)only[go_sem,vq,g1,ln,rV,r1',r2]
 · have r1':Lp AP.A [1,7,8] AP.f113L0 [(1,.aE h.next 0),(7,.int .i64 l.length),(8,.int .i64 0)] h1=some (.ret,e',h1):=r1
   clear r1
   have r3':wK none (l.map (·.1))=false:=r3
   rw[r3',UJ]
   refine tQ (fn:=AP.f113) (h2:=h1) (e:=e') (vs:=[.bool false]) rfl rfl rfl ?_ (by simp only[AP.f113,cO,na,r2];rfl) rfl
   clear rd rd1 hv hx hx0 r3 r3'
   simp only[mX,mY,AP.f113]
   rw[rI,rH,sR,jb,hb _ rfl]
   simp only[mw,hn0,←eh1]
   simp (disch:=omega)only[go_sem,vq,g1,ln,rV,r1']
def xP (method : Int) (s : ByteArray) (size : Int) : Option ByteArray :=
 if size<0∨300<size then none
 else if method=0 then(if(s.size:Int)=size then some s else none)
 else if method=8 then(match xL s size with
  | .ok (o,took)=>if(o.length:Int)=size∧took=s.size then some (bytesOf o)else none
  | .error _=>none)
 else none
theorem AF {m : Int} {s : ByteArray} {z : Int} {t : ByteArray} (h : xP m s z = some t) : (t.size : Int) = z ∧ 0 ≤ z ∧ z ≤ 300 := by
 unfold xP at h
 split at h
 · cases h
 · rename_i q
   split at h
   · split at h
     · rename_i q2;obtain rfl:=uz h;omega
     · cases h
   · split at h
     · split at h
       · split at h
         · rename_i q2
           obtain rfl:=uz h
           rw[wA];omega
         · cases h
       · cases h
     · cases h
def HB:Option ByteArray→AV
 |some t=>.bS [.str t,.int .i64 0]
 |none=>.bS [.str ⟨#[]⟩,.int .i64 900]
theorem Jw (h : H) (hf : h.floor ≤ h.next) (m : Int) (s : ByteArray) (z : Int) (hs : s.size < 1125899906842624) : aS AP.A 114 [.int .i64 m, .str s, .int .i64 z] h = some (HB (xP m s z), h) := by
 unfold xP
 by_cases c1:z<0
 · rw[if_pos (.inl c1)]
   refine tQ (fn:=AP.f114) (h2:=h.eh) (e:=[(6,.str ⟨#[]⟩),(7,.int .i64 900)]) rfl rfl rfl ?_ rfl rfl
   simp (disch:=omega)only[go_sem,vq,AP.f114]
 by_cases c2:300<z
 · rw[if_pos (.inr c2)]
   refine tQ (fn:=AP.f114) (h2:=h.eh) (e:=[(6,.str ⟨#[]⟩),(7,.int .i64 900)]) rfl rfl rfl ?_ rfl rfl
   simp (disch:=omega)only[go_sem,vq,AP.f114]
 rw[if_neg (by omega)]
 by_cases c3:m=0
 · rw[if_pos c3]
   by_cases c4:(s.size:Int)=z
   · rw[if_pos c4]
     refine tQ (fn:=AP.f114) (h2:=h.eh) (e:=[(6,.str s),(7,.int .i64 0)]) rfl rfl rfl ?_ rfl rfl
     simp (disch:=omega)only[go_sem,vq,AP.f114]
   · rw[if_neg c4]
     refine tQ (fn:=AP.f114) (h2:=h.eh) (e:=[(6,.str ⟨#[]⟩),(7,.int .i64 900)]) rfl rfl rfl ?_ rfl rfl
     simp (disch:=omega)only[go_sem,vq,AP.f114]
 rw[if_neg c3]
 by_cases c5:m=8
 · rw [if_pos c5]
   have k1:=Hn h.eh (by simp) s z hs
   simp only[I]at k1
   cases hi:xL s z with
   | error k =>
     rw[hi]at k1
     simp only[Hm,I]at k1
     have hk:=Av hi
     have hk':¬k=0:=by rcases hk with rfl|rfl<;>decide
     clear hk
     refine tQ (fn:=AP.f114) (h2:=h.eh) (e:=[(6,.str ⟨#[]⟩),(7,.int .i64 900)]) rfl rfl rfl ?_ rfl rfl
     simp (disch:=omega)only[go_sem,vq,AP.f114,k1]
   | ok r =>
     obtain⟨o,took⟩:=r
     rw[hi]at k1
     simp only[Hm,I]at k1
     dsimp only
     have sz:=wA o
     by_cases c6:(o.length:Int)=z
     · by_cases c7:took=s.size
       · rw[if_pos ⟨c6,c7⟩]
         refine tQ (fn:=AP.f114) (h2:=h.eh) (e:=[(6,.str (bytesOf o)),(7,.int .i64 0)]) rfl rfl rfl ?_ rfl rfl
         simp (disch:=omega)only[go_sem,vq,AP.f114,k1,sz]
       · rw[if_neg (fun q=>c7 q.2)]
         refine tQ (fn:=AP.f114) (h2:=h.eh) (e:=[(6,.str ⟨#[]⟩),(7,.int .i64 900)]) rfl rfl rfl ?_ rfl rfl
         simp (disch:=omega)only[go_sem,vq,AP.f114,k1,sz]
     · rw[if_neg (fun q=>c6 q.1)]
       refine tQ (fn:=AP.f114) (h2:=h.eh) (e:=[(6,.str ⟨#[]⟩),(7,.int .i64 900)]) rfl rfl rfl ?_ rfl rfl
       simp (disch:=omega)only[go_sem,vq,AP.f114,k1,sz]
 · rw[if_neg c5]
   refine tQ (fn:=AP.f114) (h2:=h.eh) (e:=[(6,.str ⟨#[]⟩),(7,.int .i64 900)]) rfl rfl rfl ?_ rfl rfl
   simp (disch:=omega)only[go_sem,vq,AP.f114]
theorem HC (h : H) (m : Int) (s : ByteArray) (z : Int) (hs : s.size < 1125899906842624) : aS AP.A 164 [.int .i64 m, .str s, .int .i64 z] h = some (HB (xP m s z), h) := by
 unfold xP
 by_cases c1:z<0
 · rw[if_pos (.inl c1)]
   refine tQ (fn:=AP.f164) (h2:=h.eh) (e:=[(6,.str ⟨#[]⟩),(7,.int .i64 900)]) rfl rfl rfl ?_ rfl rfl
   simp (disch:=omega)only[go_sem,vq,AP.f164]
 by_cases c2:300<z
 · rw[if_pos (.inr c2)]
   refine tQ (fn:=AP.f164) (h2:=h.eh) (e:=[(6,.str ⟨#[]⟩),(7,.int .i64 900)]) rfl rfl rfl ?_ rfl rfl
   simp (disch:=omega)only[go_sem,vq,AP.f164]
 rw[if_neg (by omega)]
 by_cases c3:m=0
 · rw[if_pos c3]
   by_cases c4:(s.size:Int)=z
   · rw[if_pos c4]
     refine tQ (fn:=AP.f164) (h2:=h.eh) (e:=[(6,.str s),(7,.int .i64 0)]) rfl rfl rfl ?_ rfl rfl
     simp (disch:=omega)only[go_sem,vq,AP.f164]
   · rw[if_neg c4]
     refine tQ (fn:=AP.f164) (h2:=h.eh) (e:=[(6,.str ⟨#[]⟩),(7,.int .i64 900)]) rfl rfl rfl ?_ rfl rfl
     simp (disch:=omega)only[go_sem,vq,AP.f164]
 rw[if_neg c3]
 by_cases c5:m=8
 · rw [if_pos c5]
   have k1:=Fu h.eh s z hs
   simp only[I]at k1
   cases hi:xL s z with
   | error k =>
     rw[hi]at k1
     simp only[Hm,I]at k1
     have hk:=Av hi
     have hk':¬k=0:=by rcases hk with rfl|rfl<;>decide
     clear hk
     refine tQ (fn:=AP.f164) (h2:=h.eh) (e:=[(6,.str ⟨#[]⟩),(7,.int .i64 900)]) rfl rfl rfl ?_ rfl rfl
     simp (disch:=omega)only[go_sem,vq,AP.f164,k1]
   | ok r =>
     obtain⟨o,took⟩:=r
     rw[hi]at k1
     simp only[Hm,I]at k1
     dsimp only
     have sz:=wA o
     by_cases c6:(o.length:Int)=z
     · by_cases c7:took=s.size
       · rw[if_pos ⟨c6,c7⟩]
         refine tQ (fn:=AP.f164) (h2:=h.eh) (e:=[(6,.str (bytesOf o)),(7,.int .i64 0)]) rfl rfl rfl ?_ rfl rfl
         simp (disch:=omega)only[go_sem,vq,AP.f164,k1,sz]
       · rw[if_neg (fun q=>c7 q.2)]
         refine tQ (fn:=AP.f164) (h2:=h.eh) (e:=[(6,.str ⟨#[]⟩),(7,.int .i64 900)]) rfl rfl rfl ?_ rfl rfl
         simp (disch:=omega)only[go_sem,vq,AP.f164,k1,sz]
     · rw[if_neg (fun q=>c6 q.1)]
       refine tQ (fn:=AP.f164) (h2:=h.eh) (e:=[(6,.str ⟨#[]⟩),(7,.int .i64 900)]) rfl rfl rfl ?_ rfl rfl
       simp (disch:=omega)only[go_sem,vq,AP.f164,k1,sz]
 · rw[if_neg c5]
   refine tQ (fn:=AP.f164) (h2:=h.eh) (e:=[(6,.str ⟨#[]⟩),(7,.int .i64 900)]) rfl rfl rfl ?_ rfl rfl
   simp (disch:=omega)only[go_sem,vq,AP.f164]
def yY (e : vN) : Option ByteArray :=
 if wR [e]=false then none
 else if e.gone then some ⟨#[]⟩
 else match xP e.method e.packed e.size with
  |some t=>if(xG t:Int)=e.zt then some t else none
  |none=>none
theorem PO (h : H) (hf : h.floor ≤ h.next) (e : vN) (v : AV) (hv : v.sc = true) (ok : xe h (e, v)) : ∃ t, aS AP.A 107 [.agg (vw e v)] h = some (.bS [.str t, .bool (yY e).isSome], h) ∧ (∀ u, yY e = some u → t = u) := by
 obtain⟨h1,eh1⟩:∃g,g=h.eh.alloc (vw e v):=⟨_,rfl⟩
 obtain⟨h2,eh2⟩:∃g,g=h1.alloc (vw e v):=⟨_,rfl⟩
 have hx1:Ext h h1:=fun i c q=>by rw[eh1];exact((Ext.refl h.eh).alloc _) i c q
 have hx2:Ext h h2:=by rw[eh2];exact hx1.alloc _
 have hn0:h.eh.next=h.next:=rfl
 have hn1:h1.next=h.next+1:=by rw[eh1];simp
 have g1:h2.get h.next=some (vw e v):=by rw[eh2,vO (by omega),eh1,vu (by simp)]
 have g0:h1.get h.next=some (vw e v):=by rw[eh1,vu (by simp)]
 have o:xb 9 h2 (.aF (h.next+1) 0 1 9) 1 (vD [(e,v)]):=by
  refine⟨?_,rfl,fun _=>by simp⟩
  simp only[aT,if_true]
  rw[eh2,vu (by omega)]
  rfl
 have k1:=JA h2 (.aF (h.next+1) 0 1 9) [(e,v)] rfl (by simp) o (fun x hx=>by
  obtain rfl:x=(e,v):=by simpa using hx
  exact ok.mono hx2)
 have k1':aS AP.A 113 [.agg [.aF (h.next+1) 0 1 9]] h2=some (.bool (wR [e]),h2):=k1
 have hf2:h2.floor≤h2.next:=by rw[eh2,eh1];simp;omega
 have k2:=Jw h2 hf2 e.method e.packed e.size ok.pl
 have rdA:ij true 9 (vw e v) 0=some (.agg (vw e v)):=rfl
 have cr:∀t:ByteArray,t.size<1125899906842624→aS AP.A 115 [.str t] h2=some (.int .i64 (xG t:Nat),h2):=fun t ht=>EI h2 t ht
 clear k1 o hx1 hx2
 unfold yY
 simp only[vw]at *
 cases hm:wR [e]with
 | false =>
   rw[hm]at k1'
   refine⟨⟨#[]⟩, ?_,fun u q=>by simp at q⟩
   rw[if_pos rfl]
   refine tQ (fn:=AP.f107) (h2:=h2) (e:=[(2,.str ⟨#[]⟩),(3,.bool false)]) rfl rfl rfl ?_ rfl rfl
   simp (disch:=omega)only[go_sem,vq,AP.f107,hv,hn0,←eh1,g0,rdA,hn1,←eh2,k1']
 | true =>
   rw[hm]at k1'
   rw[if_neg (by decide)]
   cases hg:e.gone with
   | true =>
     rw[hg]at g1 g0 eh1 eh2 rdA
     refine⟨⟨#[]⟩, ?_,fun u q=>by simpa using q⟩
     refine tQ (fn:=AP.f107) (h2:=h2) (e:=[(2,.str ⟨#[]⟩),(3,.bool true)]) rfl rfl rfl ?_ rfl rfl
     simp (disch:=omega)only[go_sem,vq,AP.f107,hv,hn0,←eh1,g0,g1,rdA,hn1,←eh2,k1']
   | false =>
     rw[hg]at g1 g0 eh1 eh2 rdA
     rw[if_neg (by decide)]
     cases hu:xP e.method e.packed e.size with
     | none =>
       rw[hu]at k2
       simp only[HB]at k2
       refine⟨⟨#[]⟩, ?_,fun u q=>by simp at q⟩
       refine tQ (fn:=AP.f107) (h2:=h2) (e:=[(2,.str ⟨#[]⟩),(3,.bool false)]) rfl rfl rfl ?_ rfl rfl
       simp (disch:=omega)only[go_sem,vq,AP.f107,hv,hn0,←eh1,g0,g1,rdA,hn1,←eh2,k1',k2]
     | some t =>
       rw[hu]at k2
       simp only[HB]at k2
       have kc:=cr t (by have:=AF hu;omega)
       dsimp only
       by_cases c:(xG t:Int)=e.zt
       · rw[if_pos c]
         refine⟨t, ?_,fun u q=>uz q⟩
         refine tQ (fn:=AP.f107) (h2:=h2) (e:=[(2,.str t),(3,.bool true)]) rfl rfl rfl ?_ rfl rfl
         simp (disch:=omega)only[go_sem,vq,AP.f107,hv,hn0,←eh1,g0,g1,rdA,hn1,←eh2,k1',k2,kc]
       · rw[if_neg c]
         refine⟨t, ?_,fun u q=>by simp at q⟩
         refine tQ (fn:=AP.f107) (h2:=h2) (e:=[(2,.str t),(3,.bool false)]) rfl rfl rfl ?_ rfl rfl
         simp (disch:=omega)only[go_sem,vq,AP.f107,hv,hn0,←eh1,g0,g1,rdA,hn1,←eh2,k1',k2,kc]
def wZ (e:vN):Bool:=(yY e).isSome
theorem Fp (h:H) (hf:h.floor≤h.next) (e:vN) (v:AV) (hv:v.sc=true) (ok:xe h (e,v)):aS AP.A 96 [.agg (vw e v)] h=some (.bool (wZ e),h):=by
 obtain⟨h1,eh1⟩:∃g,g=h.eh.alloc (vw e v):=⟨_,rfl⟩
 have hx1:Ext h h1:=fun i c q=>by rw[eh1];exact((Ext.refl h.eh).alloc _) i c q
 have hn0:h.eh.next=h.next:=rfl
 have g0:h1.get h.next=some (vw e v):=by rw[eh1,vu (by simp)]
 obtain⟨t,k1,_⟩:=PO h1 (by rw[eh1];simp) e v hv (ok.mono hx1)
 have rdA:ij true 9 (vw e v) 0=some (.agg (vw e v)):=rfl
 refine tQ (fn:=AP.f96) (h2:=h1) (e:=[(2,.bool (wZ e))]) rfl rfl rfl ?_ rfl rfl
 clear hx1
 unfold wZ
 simp only[vw]at *
 simp (disch:=omega)only[go_sem,vq,AP.f96,hv,hn0,←eh1,g0,rdA,k1]
theorem IC (e:vN):wR [e]=(wz e.name&&(wh e&&xg e)):=by
 unfold wR wK
 rw[Aq]
 simp [wK]
theorem Ir (h : H) (e : vN) (v : AV) (hv : v.sc = true) (ok : xe h (e, v)) : aS AP.A 167 [.agg (vw e v)] h = some (.bool (wR [e]), h) := by
 obtain⟨h1,eh1⟩:∃g,g=h.eh.alloc (vw e v):=⟨_,rfl⟩
 have hx1:Ext h h1:=fun i c q=>by rw[eh1];exact((Ext.refl h.eh).alloc _) i c q
 have hn0:h.eh.next=h.next:=rfl
 have g0:h1.get h.next=some (vw e v):=by rw[eh1,vu (by simp)]
 have k1:=Kl h1 e.name ok.nl
 have k2:=J9 h1 v e (ok.mono hx1).vec hv ok.vl
 have e1:br .eql (.str e.packed) (.str ⟨#[]⟩)=some (.bool (BZ e.packed)):=yo _ _
 have rdA:ij true 9 (vw e v) 0=some (.agg (vw e v)):=rfl
 rw[IC]
 refine tQ (fn:=AP.f167) (h2:=h1) (e:=[(2,.bool (wz e.name&&(wh e&&xg e)))]) rfl rfl rfl ?_ rfl rfl
 clear hx1 ok
 unfold xg z9
 generalize wz e.name=B1 at *
 generalize wh e=B2 at *
 generalize BZ e.packed=B3 at *
 simp only[vw]at *
 cases B1 with
 |false=>simp (disch:=omega)only[go_sem,vq,AP.f167,hv,hn0,←eh1,g0,rdA,k1,k2]
 | true =>
   cases B2 with
   |false=>simp (disch:=omega)only[go_sem,vq,AP.f167,hv,hn0,←eh1,g0,rdA,k1,k2]
   | true =>
     cases hg:e.gone with
     | true =>
       rw[hg]at g0 eh1 rdA k2
       rw[if_pos rfl]
       by_cases c1:e.method=0
       · cases B3 with
         |false=>simp (disch:=omega)only[go_sem,vq,AP.f167,hv,hn0,←eh1,g0,rdA,k1,k2,e1]
         | true =>
           by_cases c2:e.size=0
           · by_cases c3:e.zt=0<;>simp (disch:=omega)only[go_sem,vq,AP.f167,hv,hn0,←eh1,g0,rdA,k1,k2,e1]
           · simp (disch:=omega)only[go_sem,vq,AP.f167,hv,hn0,←eh1,g0,rdA,k1,k2,e1]
       · simp (disch:=omega)only[go_sem,vq,AP.f167,hv,hn0,←eh1,g0,rdA,k1,k2,e1]
     | false =>
       rw[hg]at g0 eh1 rdA k2
       rw[if_neg (by decide)]
       by_cases c1:0≤e.size
       · by_cases c2:e.size≤300
         · by_cases c3:0≤e.zt
           · by_cases c4:e.zt≤4294967295
             · by_cases c5:e.method=0
               · have c5':¬e.method=8:=by omega
                 by_cases c6:(e.packed.size:Int)=e.size<;>simp (disch:=omega)only[go_sem,vq,AP.f167,hv,hn0,←eh1,g0,rdA,k1,k2,e1]
               · by_cases c7:e.method=8
                 · by_cases c8:e.packed.size≤300<;>simp (disch:=omega)only[go_sem,vq,AP.f167,hv,hn0,←eh1,g0,rdA,k1,k2,e1]
                 · simp (disch:=omega)only[go_sem,vq,AP.f167,hv,hn0,←eh1,g0,rdA,k1,k2,e1]
             · have c4':¬(0≤e.zt∧e.zt≤4294967295):=by omega
               simp (disch:=omega)only[go_sem,vq,AP.f167,hv,hn0,←eh1,g0,rdA,k1,k2,e1]
           · have c4':¬(0≤e.zt∧e.zt≤4294967295):=by omega
             simp (disch:=omega)only[go_sem,vq,AP.f167,hv,hn0,←eh1,g0,rdA,k1,k2,e1]
         · simp (disch:=omega)only[go_sem,vq,AP.f167,hv,hn0,←eh1,g0,rdA,k1,k2,e1]
       · simp (disch:=omega)only[go_sem,vq,AP.f167,hv,hn0,←eh1,g0,rdA,k1,k2,e1]
theorem JU (h : H) (e : vN) (v : AV) (hv : v.sc = true) (ok : xe h (e, v)) : aS AP.A 157 [.agg (vw e v)] h = some (.bool (wZ e), h) := by
 obtain⟨h1,eh1⟩:∃g,g=h.eh.alloc (vw e v):=⟨_,rfl⟩
 have hx1:Ext h h1:=fun i c q=>by rw[eh1];exact((Ext.refl h.eh).alloc _) i c q
 have hn0:h.eh.next=h.next:=rfl
 have g0:h1.get h.next=some (vw e v):=by rw[eh1,vu (by simp)]
 have k1:=Ir h1 e v hv (ok.mono hx1)
 have k2:=HC h1 e.method e.packed e.size ok.pl
 have rdA:ij true 9 (vw e v) 0=some (.agg (vw e v)):=rfl
 have cr:∀t:ByteArray,t.size<1125899906842624→aS AP.A 101 [.str t] h1=some (.int .i64 (xG t:Nat),h1):=fun t ht=>Fl h1 t ht
 unfold wZ yY
 clear hx1 ok
 cases hm:wR [e]with
 | false =>
   rw[hm]at k1
   rw[if_pos rfl]
   refine tQ (fn:=AP.f157) (h2:=h1) (e:=[(2,.bool false)]) rfl rfl rfl ?_ rfl rfl
   simp only[vw]at *
   simp (disch:=omega)only[go_sem,vq,AP.f157,hv,hn0,←eh1,g0,rdA,k1]
 | true =>
   rw[hm]at k1
   rw[if_neg (by decide)]
   cases hg:e.gone with
   | true =>
     refine tQ (fn:=AP.f157) (h2:=h1) (e:=[(2,.bool true)]) rfl rfl rfl ?_ rfl rfl
     simp only[vw,hg]at *
     simp (disch:=omega)only[go_sem,vq,AP.f157,hv,hn0,←eh1,g0,rdA,k1]
   | false =>
     rw[if_neg (by decide)]
     cases hu:xP e.method e.packed e.size with
     | none =>
       rw[hu]at k2
       simp only[HB]at k2
       refine tQ (fn:=AP.f157) (h2:=h1) (e:=[(2,.bool false)]) rfl rfl rfl ?_ rfl rfl
       simp only[vw,hg]at *
       simp (disch:=omega)only[go_sem,vq,AP.f157,hv,hn0,←eh1,g0,rdA,k1,k2]
     | some t =>
       rw[hu]at k2
       simp only[HB]at k2
       have kc:=cr t (by have:=AF hu;omega)
       dsimp only
       by_cases c:(xG t:Int)=e.zt
       · rw[if_pos c]
         refine tQ (fn:=AP.f157) (h2:=h1) (e:=[(2,.bool true)]) rfl rfl rfl ?_ rfl rfl
         simp only[vw,hg]at *
         simp (disch:=omega)only[go_sem,vq,AP.f157,hv,hn0,←eh1,g0,rdA,k1,k2,kc]
       · rw[if_neg c]
         refine tQ (fn:=AP.f157) (h2:=h1) (e:=[(2,.bool false)]) rfl rfl rfl ?_ rfl rfl
         simp only[vw,hg]at *
         simp (disch:=omega)only[go_sem,vq,AP.f157,hv,hn0,←eh1,g0,rdA,k1,k2,kc]
theorem IK (c:ae) (e:Env) (h:H) (x y:X):ah c e h (.mx [x,y])=dB h (mi (x.ev e) (y.ev e)):=by
 simp only[ah,aY,UL,U1,gG]
 cases mi (x.ev e) (y.ev e)<;>rfl
def w9 (a b:Int):Int:=if a<b then b else a
theorem FR (k:IntKind) (a b:Int):mi (.int k a) (.int k b)=some (.int k (w9 a b)):=rfl
def wj (a b:List Int):List Int:=List.zipWith w9 a b
theorem Rd.SQ {h:H} {v:AV} {cs:List AV} (r:Rd h v cs) (hc:cs≠[]):fN 1 v .aQ=some false:=by
 obtain⟨r,hs⟩:=r
 unfold aT at r
 split at r
 · obtain⟨_,h2⟩:=uB (uz r);exact absurd h2.symm hc
 · exact absurd rfl (hs _)
 · rfl
 · rfl
 · cases r
theorem CI {n:Nat} {h:H} {v:AV} {k:Nat} {cs:List AV} (r:xb n h v k cs) (hfn:h.floor≤h.next) (hn:0<n) (hk:0<k) {z:Nat} (hr:roomy z k=true) (hc:AV.aD cs=true):
 kN (h.alloc []) n z (.aF h.next 0 0 n) v=some (.aF (h.next+1) 0 k n,((h.alloc []).del h.next).alloc cs):=by
 have r2:xb n (h.alloc []) v k cs:=r.mono fun i c q=>by rw[H.aX,if_neg (by have:=h.lt _ _ q;omega)];exact q
 unfold kN
 rw[r2.1,uG]
 have hkn:0<k* n:=Nat.mul_pos hk hn
 unfold dX
 rw[if_neg (by omega),if_neg (by simp [hc];omega)]
 simp only[H.jy,hfn,and_self,if_true]
 rw[vu rfl,uG,if_neg (by simp;omega),if_pos ⟨by simp,by simpa using hr⟩]
 simp
theorem z8:∀l:List Int,AV.aD (ints l)=true
 |[]=>rfl
 | n :: l => by
   have:=z8 l
   show AV.aD (I n::ints l)=true
   rw[pS,this];rfl
theorem Dz (h:H) (v:AV) (l:List Int) (rd:Rd h v (ints l)) (hl:0<l.length) (hb:l.length<1000000) (hfn:h.floor≤h.next):aS AP.A 118 [v] h=some (.aF (h.next+1) 0 l.length 1,((h.alloc []).del h.next).alloc (ints l)):=by
 have r2:=rd.Ck
 rw[pC]at r2
 have ap:=CI r2 hfn (by omega) hl (z:=8) (by simp [roomy];omega) (z8 l)
 have nn:=rd.SQ (fun q=>by
  have q2:(ints l).length=0:=by rw[q];rfl
  rw[pC]at q2
  omega)
 refine tw (fn:=AP.f118) (h2:=((h.alloc []).del h.next).alloc (ints l)) (e:=[(2,.aF (h.next+1) 0 l.length 1)]) (vs:=[.aF (h.next+1) 0 l.length 1]) rfl rfl rfl ?_ rfl
 clear rd r2
 simp (disch:=omega)only[go_sem,vq,AP.f118,nn,ap]
theorem KR {l:List Int} (h:l.length=4):∃a b c d,l=[a,b,c,d]:=by
 match l,h with
 |[a,b,c,d],_=>exact⟨a,b,c,d,rfl⟩
def A9 (l:List Int):AV:=DV 1 l.length (ints l)
theorem zO (h:H) (id:Nat) (b0:AV) (adv:Int→AV) (i:Nat) (x y:Int) (cs:List AV) (hi:i<4) (hg:h.get id=some cs) (hl:cs.length=4) (hx:cs[i]?=some (.int .i64 x)) (hf:h.floor≤id)
 (a1:fZ 1 b0 (.int .i64 i)=some (adv i)) (a2:bX false 1 (adv i) h=some (.int .i64 y)):
 aM (aS AP.A) bD AP.f110L0 (ay [(6,.aF id 0 4 1),(19,b0),(20,.int .i64 4),(21,.int .i64 i)] [6,19,20,21]) h=some (.normal,[(6,.aF id 0 4 1),(19,b0),(20,.int .i64 4),(21,.int .i64 ((i:Int)+1))],h.set id (cs.set i (.int .i64 (w9 x y)))):=by
 have st:=uk (h:=h) (id:=id) (off:=i) (v:=.int .i64 (w9 x y)) (cs:=cs) hf (by omega) rfl
 simp (disch:=omega)only[go_sem,vq,AP.f110L0,a1,a2,hg,hx,IK,FR,st]
def Et:vN:=⟨⟨#[]⟩,false,[],0,0,0,⟨#[]⟩,0,0⟩
theorem Jh {g:Nat→Option (List AV)} {fl n:Nat} {e:vN} {v v':AV} (hv:snap g fl (n+1) true v=some v'):snap g fl (n+2) true (.agg (vw e v))=some (.agg (vw e v')):=by
 unfold snap
 simp only[vw,fP,hv]
 rfl
abbrev Z9:List AV:=[.str ⟨#[]⟩,.bool false,.aQ,.int .i64 0,.int .i64 0,.int .i64 0,.str ⟨#[]⟩,.int .i64 0,.int .i64 0]
def Af (name:ByteArray) (node:Nat) (vQ:Int) (text:ByteArray):vN:=⟨name,false,[0,0,0,0].set node vQ,vQ,node,0,text,text.size,xG text⟩
theorem PS {l:List Int} (h:l.length=4):A9 l=.aW false (ints l) 0 4 1:=by unfold A9 DV;rw[h,if_neg (by omega)]
theorem GD {v w : AV} {a b : List Int} (hab : a.length = b.length) (hl : a.length < 1125899906842624) (h : H) (ra : Rd h v (ints a)) (rb : Rd h w (ints b)) : ∀ (p q r : List Int) (p' : List Int), a = p ++ q → b = p' ++ r → p.length = p'.length →
 (∃e',Lp AP.A [0,1,5] AP.f106L0 [(0,v),(1,w),(5,.int .i64 p.length)] h=some (.exit 0,e',h)∧decide (q=r)=true)∨
 (∃e',Lp AP.A [0,1,5] AP.f106L0 [(0,v),(1,w),(5,.int .i64 p.length)] h=some (.ret,e',h)∧look e' 4=.bool false∧decide (q=r)=false)
 | p, [], r, p', hp, hq, hpp => by
   have hr:r=[]:=UO (by rw[hp,hq]at hab;simp at hab;omega)
   left
   have ln:=ra.len
   rw[pC]at ln
   simp only[I]at ln
   rw[UI]at hp
   refine⟨[(0,v),(1,w),(5,.int .i64 p.length),(14,.bool false)],tc ?_,by rw[hr];rfl⟩
   rw[hp]at ln
   clear hab hl ra rb
   simp (disch:=omega)only[go_sem,vq,AP.f106L0,ln]
 | p, x :: q, [], p', hp, hq, hpp => by
   exfalso
   rw[hp,hq]at hab;simp at hab;omega
 | p, x :: q, y :: r, p', hp, hq, hpp => by
   have ln:=ra.len
   rw[pC]at ln
   simp only[I]at ln
   have hlen:a.length=p.length+(q.length+1):=by rw[hp];simp
   have hx:a[p.length]?=some x:=by rw[hp];simp
   have hy:b[p.length]?=some y:=by rw[hpp,hq];simp
   obtain⟨ad,a1,a2⟩:=ra.wT
   obtain⟨bd,b1,b2⟩:=rb.wT
   have i1:=a1 p.length ⟨by omega,by omega⟩
   have i2:=b1 p.length ⟨by omega,by omega⟩
   have l1:=a2 h (Ext.refl h) _ _ hx
   have l2:=b2 h (Ext.refl h) _ _ hy
   have w1:(((p++[x]).length:Nat):Int)=(p.length:Int)+1:=by simp
   have ih:=GD hab hl h ra rb (p++[x]) q r (p'++[y]) (by rw[hp];simp) (by rw[hq];simp) (by simp;omega)
   rw[w1]at ih
   clear a1 a2 b1 b2 ra rb w1
   by_cases c:x=y
   · have step:aM (aS AP.A) bD AP.f106L0 (ay [(0,v),(1,w),(5,.int .i64 p.length)] [0,1,5]) h=some (.normal,[(0,v),(1,w),(5,.int .i64 ((p.length:Int)+1))],h):=by
      clear ih hp hq
      simp (disch:=omega)only[go_sem,vq,AP.f106L0,ln,i1,i2,l1,l2]
     have e:decide (x::q=y::r)=decide (q=r):=by simp [c]
     rw[e]
     rcases ih with ⟨e',r1,r2⟩|⟨e',r1,r2,r3⟩
     · exact .inl ⟨e',td step r1,r2⟩
     · exact .inr ⟨e',td step r1,r2,r3⟩
   · right
     refine⟨[(4,.bool false)],tF ?_,rfl,by simp [c]⟩
     clear ih hp hq
     simp (disch:=omega)only[go_sem,vq,AP.f106L0,ln,i1,i2,l1,l2]
theorem zR (h:H) (v w:AV) (a b:List Int) (ra:Rd h v (ints a)) (rb:Rd h w (ints b)) (hl:a.length<1125899906842624):aS AP.A 106 [v,w] h=some (.bool (decide (a=b)),h):=by
 have ra':=ra.mono (vF h)
 have rb':=rb.mono (vF h)
 have la:=ra'.len
 have lb:=rb'.len
 rw[pC]at la lb
 simp only[I]at la lb
 by_cases c:a.length=b.length
 · rcases GD c hl h.eh ra' rb' [] a b [] rfl rfl rfl with ⟨e',r1,r2⟩|⟨e',r1,r2,r3⟩
   · have r1':Lp AP.A [0,1,5] AP.f106L0 [(0,v),(1,w),(5,.int .i64 0)] h.eh=some (.exit 0,e',h.eh):=r1
     clear r1
     rw[r2]
     refine tQ (fn:=AP.f106) (h2:=h.eh) (e:=[(4,.bool true)]) rfl rfl rfl ?_ rfl rfl
     simp (disch:=omega)only[go_sem,vq,AP.f106,la,lb,rV,r1']
   · have r1':Lp AP.A [0,1,5] AP.f106L0 [(0,v),(1,w),(5,.int .i64 0)] h.eh=some (.ret,e',h.eh):=r1
     clear r1
     rw[r3]
     refine tQ (fn:=AP.f106) (h2:=h.eh) (e:=e') (vs:=[.bool false]) rfl rfl rfl ?_ (by simp only[AP.f106,cO,na,r2];rfl) rfl
     simp (disch:=omega)only[go_sem,vq,AP.f106,la,lb,rV,r1']
 · have e:decide (a=b)=false:=by rw[decide_eq_false_iff_not];intro q;exact c (by rw[q])
   rw[e]
   refine tQ (fn:=AP.f106) (h2:=h.eh) (e:=[(4,.bool false)]) rfl rfl rfl ?_ rfl rfl
   simp (disch:=omega)only[go_sem,vq,AP.f106,la,lb]
def AZ (a b:vN):Bool:=(a.name.data.toList==b.name.data.toList)&&((a.gone==b.gone)&&(decide (a.vec=b.vec)&&(decide (a.vQ=b.vQ)&&(decide (a.node=b.node)&&(decide (a.method=b.method)&&((a.packed.data.toList==b.packed.data.toList)&&(decide (a.size=b.size)&&decide (a.zt=b.zt))))))))
theorem zg (a b:vN):AZ a b=true↔a=b:=by
 have q:∀x y:ByteArray,(x.data.toList==y.data.toList)=true↔x=y:=fun x y=>by
  constructor
  · intro e;exact ByteArray.ext (Array.toList_inj.1 (eq_of_beq e))
  · rintro rfl;exact E4 _
 obtain⟨a1,a2,a3,a4,a5,a6,a7,a8,a9⟩:=a
 obtain⟨b1,b2,b3,b4,b5,b6,b7,b8,b9⟩:=b
 simp only[AZ,uL,UH,q,beq_iff_eq,vN.mk.injEq]
theorem Gx (h : H) (a b : vN) (v w : AV) (sa : v.sc = true) (sb : w.sc = true) (ra : xe h (a, v)) (rb : xe h (b, w)) : aS AP.A 98 [.agg (vw a v), .agg (vw b w)] h = some (.bool (AZ a b), h) := by
 obtain⟨h1,eh1⟩:∃g,g=h.eh.alloc (vw a v):=⟨_,rfl⟩
 obtain⟨h2,eh2⟩:∃g,g=h1.alloc (vw b w):=⟨_,rfl⟩
 have x1:Ext h h1:=fun i c q=>by rw[eh1];exact((Ext.refl h.eh).alloc _) i c q
 have x2:Ext h h2:=by rw[eh2];exact x1.alloc _
 have n0:h.eh.next=h.next:=rfl
 have n1:h1.next=h.next+1:=by rw[eh1];simp
 have ga:h2.get h.next=some (vw a v):=by rw[eh2,vO (by omega),eh1,vu (by simp)]
 have gb:h2.get (h.next+1)=some (vw b w):=by rw[eh2,vu (by omega)]
 have k1:=zR h2 v w a.vec b.vec (ra.mono x2).vec (rb.mono x2).vec ra.vl
 have s1:br .eql (.str a.name) (.str b.name)=some (.bool (a.name.data.toList==b.name.data.toList)):=yo _ _
 have s2:br .eql (.str a.packed) (.str b.packed)=some (.bool (a.packed.data.toList==b.packed.data.toList)):=yo _ _
 have e1:h.eh.alloc (vw a v)=h1:=eh1.symm
 have e2:h1.alloc (vw b w)=h2:=eh2.symm
 refine tQ (fn:=AP.f98) (h2:=h2) (e:=[(4,.bool (AZ a b))]) rfl rfl rfl ?_ rfl rfl
 unfold AZ
 clear x1 x2 ra rb eh1 eh2
 generalize (a.name.data.toList==b.name.data.toList)=B1 at *
 generalize (a.packed.data.toList==b.packed.data.toList)=B2 at *
 obtain⟨B3,hB3⟩:∃B,(a.gone==b.gone)=B:=⟨_,rfl⟩
 rw[hB3]
 generalize decide (a.vec=b.vec)=B4 at *
 simp only[vw]at *
 cases B1 with
 |false=>simp (disch:=omega)only[go_sem,vq,AP.f98,sa,sb,n0,e1,n1,e2,ga,gb,s1,s2,hB3,k1]
 | true =>
   cases B3 with
   |false=>simp (disch:=omega)only[go_sem,vq,AP.f98,sa,sb,n0,e1,n1,e2,ga,gb,s1,s2,hB3,k1]
   | true =>
     cases B4 with
     |false=>simp (disch:=omega)only[go_sem,vq,AP.f98,sa,sb,n0,e1,n1,e2,ga,gb,s1,s2,hB3,k1]
     | true =>
       by_cases c3:a.vQ=b.vQ
       · by_cases c4:a.node=b.node
         · by_cases c5:a.method=b.method
           · cases B2 with
             |false=>simp (disch:=omega)only[go_sem,vq,AP.f98,sa,sb,n0,e1,n1,e2,ga,gb,s1,s2,hB3,k1]
             | true =>
               by_cases c7:a.size=b.size
               · by_cases c8:a.zt=b.zt
                 · simp (disch:=omega)only[go_sem,vq,AP.f98,sa,sb,n0,e1,n1,e2,ga,gb,s1,s2,hB3,k1]
                 · simp (disch:=omega)only[go_sem,vq,AP.f98,sa,sb,n0,e1,n1,e2,ga,gb,s1,s2,hB3,k1]
               · simp (disch:=omega)only[go_sem,vq,AP.f98,sa,sb,n0,e1,n1,e2,ga,gb,s1,s2,hB3,k1]
           · simp (disch:=omega)only[go_sem,vq,AP.f98,sa,sb,n0,e1,n1,e2,ga,gb,s1,s2,hB3,k1]
         · simp (disch:=omega)only[go_sem,vq,AP.f98,sa,sb,n0,e1,n1,e2,ga,gb,s1,s2,hB3,k1]
       · simp (disch:=omega)only[go_sem,vq,AP.f98,sa,sb,n0,e1,n1,e2,ga,gb,s1,s2,hB3,k1]
def nA:ByteArray:=⟨#[97]⟩
def nB:ByteArray:=⟨#[98]⟩
def Td:ByteArray:=⟨#[104,105]⟩
def eA:vN:=Af nA 0 1 Td
def eC:vN:=Af nB 0 1 ⟨#[]⟩
theorem xe.ar {h:H} {e:vN} (hv:e.vec.length=4) (nl:e.name.size<1000000) (pl:e.packed.size<1000000):xe h (e,A9 e.vec):=
 ⟨by rw[show(e,A9 e.vec).2=A9 e.vec from rfl,PS hv];have:=xM h e.vec;unfold wJ at this;rw[hv]at this;exact this,by show e.vec.length<_;omega,by show e.name.size<_;omega,by show e.packed.size<_;omega⟩
theorem Rd.obj {h:H} {p n:Nat} {l:List Int} (hp:h.get p=some (ints l)) (hl:l.length=n):Rd h (.aF p 0 n 1) (ints l):=
 ⟨by subst hl;simp only[aT,if_true,hp,uG];rw[if_pos (by simp),UK,uZ (by simp),pC],fun s e=>by cases e⟩
theorem xe.obj {h:H} {e:vN} {p n:Nat} {l:List Int} (hp:h.get p=some (ints l)) (hl:l.length=n) (he:e.vec=l:=by rfl) (nl:e.name.size<1125899906842624) (pl:e.packed.size<1125899906842624) (hn:n<1000000:=by decide):xe h (e,.aF p 0 n 1):=
 ⟨by show Rd h _ (ints e.vec);rw[he];exact Rd.obj hp hl,by show e.vec.length<_;rw[he];omega,by show e.name.size<_;omega,by show e.packed.size<_;omega⟩
theorem GK (l:List Int):(A9 l).sc=true:=by unfold A9 DV;split<;>rfl
theorem yH {e:vN} {v:AV} (h:v.sc=true):AV.aD (vw e v)=true:=by simp [vw,h]
def ED:Ty:=.int .i64
def KQ:Ty:=.sl ED 1 8
def Ni:Ty:=.st [.str,.bool,KQ,ED,ED,ED,.str,ED,ED]
theorem A5 {B:Nat} {avs:List AV} (h:Sh B ED avs):∃n,avs=[.int .i64 n]∧(-9223372036854775808≤n∧n<9223372036854775808):=by
 cases h with
 |int h=>exact⟨_,rfl,tr h⟩
theorem Kw {B:Nat} {avs:List AV} (h:Sh B .bool avs):∃b,avs=[.bool b]:=by
 cases h with
 |bool b=>exact⟨b,rfl⟩
theorem Jd {avs:List AV} (h:Sh reachBytes .str avs):∃s:ByteArray,avs=[.str s]∧s.size<140737488355328:=by
 cases h with
 |str h=>exact⟨_,rfl,tT h⟩
theorem KA {B:Nat} {avs:List AV} {ess:List (List AV)} (h:∀es,es∈ess→Sh B ED es):∃l:List Int,l.length=ess.length∧ess.flatten=ints l:=by
 induction ess with
 |nil=>exact⟨[],rfl,rfl⟩
 | cons x ess ih =>
   obtain⟨n,rfl,_⟩:=A5 (h x (by simp))
   obtain⟨l,h1,h2⟩:=ih fun es q=>h es (by simp [q])
   exact⟨n::l,by simp [h1],by rw[List.flatten_cons,h2];rfl⟩
theorem Kz {avs:List AV} (h:Sh reachBytes KQ avs):∃(v:AV) (l:List Int),avs=[v]∧v.sc=true∧(∀g,Rd g v (ints l))∧l.length<20000000000000:=by
 cases h with
 |aQ=>exact⟨.aQ,[],rfl,rfl,fun g=>⟨rfl,fun s e=>by cases e⟩,by simp⟩
 | aW ess h hz hb =>
   obtain⟨l,h1,h2⟩:=KA (avs:=[]) h
   rw[h2,←h1]
   refine⟨_,l,rfl,rfl,fun g=> ?_, ?_⟩
   · have:=xM g l
     unfold wJ at this;exact this
   · rw[h1];unfold reachBytes at hb;omega
theorem xq {B:Nat} {f:Ty} {fs:List Ty} {avs:List AV} (h:je B (f::fs) avs):∃a r,avs=a++r∧Sh B f a∧je B fs r:=by
 cases h with
 |cons h hr=>exact⟨_,_,rfl,h,hr⟩
theorem GA {B:Nat} {avs:List AV} (h:je B [] avs):avs=[]:=by
 cases h;rfl
theorem K2 {B:Nat} {fs:List Ty} {avs:List AV} (h:Sh B (.st fs) avs):je B fs avs:=by
 cases h with
 |st h=>exact h
theorem PI {avs:List AV} (h:Sh reachBytes Ni avs):∃(e:vN) (v:AV),avs=vw e v∧v.sc=true∧(∀g,xe g (e,v))∧e.vec.length<20000000000000:=by
 obtain⟨a1,r1,rfl,s1,h1⟩:=xq (K2 h)
 obtain⟨a2,r2,rfl,s2,h2⟩:=xq h1
 obtain⟨a3,r3,rfl,s3,h3⟩:=xq h2
 obtain⟨a4,r4,rfl,s4,h4⟩:=xq h3
 obtain⟨a5,r5,rfl,s5,h5⟩:=xq h4
 obtain⟨a6,r6,rfl,s6,h6⟩:=xq h5
 obtain⟨a7,r7,rfl,s7,h7⟩:=xq h6
 obtain⟨a8,r8,rfl,s8,h8⟩:=xq h7
 obtain⟨a9,r9,rfl,s9,h9⟩:=xq h8
 obtain rfl:=GA h9
 obtain⟨n,rfl,z1⟩:=Jd s1
 obtain⟨g,rfl⟩:=Kw s2
 obtain⟨v,l,rfl,hv,rd,z3⟩:=Kz s3
 obtain⟨st,rfl,_⟩:=A5 s4
 obtain⟨no,rfl,_⟩:=A5 s5
 obtain⟨me,rfl,_⟩:=A5 s6
 obtain⟨pa,rfl,z7⟩:=Jd s7
 obtain⟨si,rfl,_⟩:=A5 s8
 obtain⟨cr,rfl,_⟩:=A5 s9
 exact⟨⟨n,g,l,st,no,me,pa,si,cr⟩,v,rfl,hv,fun g=>⟨rd g,by show l.length<_;omega,by show n.size<_;omega,by show pa.size<_;omega⟩,z3⟩
theorem SU {P:Ty×List AV→Prop} {a b:Ty} {r:List (Ty×List AV)} (h:r.map (·.1)=[a,b]) (hp:∀x∈r,P x):∃x y,r=[(a,x),(b,y)]∧P (a,x)∧P (b,y):=by
 match r,h with
 |[(a',x),(b',y)],h=>simp at h;obtain⟨rfl,rfl⟩:=h;exact⟨x,y,rfl,hp _ (by simp),hp _ (by simp)⟩
end Ab
