/- Part C2. -/
import Derived.Test.YtcapkjggnnakfaaGreatDoorC1
set_option linter.unusedSimpArgs false
set_option linter.unusedVariables false
namespace Ab
open Go
theorem y8 {c:FC} {S:SS} {h:H} {ov:AV} (st:Ft c S h ov) (a b:AV) (n d i:Nat) (hs:n≤i∨(i<n∧S.e≠0)):
 ∃e',Lp AP.A [0,1,2,10,14,15] AP.f20L0 [(0,.aC c.f 0),(1,a),(2,b),(10,I n),(14,I d),(15,I i)] h=some (.exit 2,e',h)∧look e' 0=.aC c.f 0∧look e' 1=a∧look e' 2=b:=by
 have gf:=st.gf
 refine⟨[(0,.aC c.f 0),(1,a),(2,b),(10,I n),(14,I d),(15,I i),(107,.bool false)],sY ?_,rfl,rfl,rfl⟩
 rcases hs with hn|⟨hn,he⟩
 · have c1:¬(i:Int)<n:=by omega
   simp only[I]at *
   simp only[AP.f20L0,go_sem,UQ c1]
 · have c1:(i:Int)<n:=by omega
   have c2:=tT he
   simp only[I]at *
   simp only[AP.f20L0,go_sem,US c1,gf,c2]
theorem Cb {c : FC} (a b : AV) (d : Nat) (hd : 0 < d) (n : Nat) (hn : n ≤ 65535) : ∀ (m i : Nat) (S : SS) (h : H) (ov : AV), i + m = n → Ft c S h ov → S.e = 0 → d ≤ S.out.length →
 ∃ e' h' ov' S', Lp AP.A [0, 1, 2, 10, 14, 15] AP.f20L0 [(0, .aC c.f 0), (1, a), (2, b), (10, I n), (14, I d), (15, I i)] h = some (.exit 2, e', h') ∧ look e' 0 = .aC c.f 0 ∧ look e' 1 = a ∧ look e' 2 = b ∧ Ft c S' h' ov' ∧ FF c h ov h' ov' ∧ match zk c.most d m S.out with
   | .ok o=>S'={S with out:=o}
   | .error k=>S'.e=k∧k≠0
 | 0, i, S, h, ov, hm, st, he, hl => by
   obtain⟨e',q,q2⟩:=y8 st a b n d i (.inl (by omega))
   exact⟨e',h,ov,S,q,q2.1,q2.2.1,q2.2.2,st,FF.refl _ _ _,by simp only[zk]⟩
 | m + 1, i, S, h, ov, hm, st, he, hl => by
   have gf:=st.gf
   have hol:=st.ol
   have hml:=st.ml
   have ln:=st.own.len
   rw[xu]at ln
   have c1:(i:Int)<n:=by omega
   have w1:IntKind.wrap .i64 ((i:Int)+1)=((i+1:Nat):Int):=u5 (n:=i+1) (by omega)
   have w2:IntKind.wrap .i64 ((S.out.length:Int)-d)=((S.out.length-d:Nat):Int):=by rw[show(S.out.length:Int)-d=((S.out.length-d:Nat):Int)by omega];exact u5 (by omega)
   have hb:=Ga (l:=S.out) (i:=S.out.length-d) (by omega)
   obtain⟨id,i1,i2,i3⟩:=st.own.elem hb
   obtain⟨h2,ov2,S2,p1,p2,p3,p4⟩:=FU st he (S.out.getD (S.out.length-d) 0)
   have step:aK (aQ AP.A) bz AP.f20L0 (ax [(0,.aC c.f 0),(1,a),(2,b),(10,I n),(14,I d),(15,I i)] [0,1,2,10,14,15]) h=some (.normal,[(0,.aC c.f 0),(1,a),(2,b),(10,I n),(14,I d),(15,I (i+1:Nat))],h2):=by
    clear i1
    rw[he]at gf
    simp only[I]at *
    simp only[AP.f20L0,go_sem,US c1,gf,ln,w2,i2,i3,hb,p1,w1]
   rw[zk]
   by_cases hm':c.most≤S.out.length
   · rw[if_pos hm']at p4 ⊢
     have he2:S2.e=701:=by rw[p4]
     have hs:n≤i+1∨(i+1<n∧S2.e≠0):=by
      by_cases q:i+1<n
      · exact .inr ⟨q,by rw[he2];decide⟩
      · exact .inl (by omega)
     obtain⟨e',q,q2⟩:=y8 p2 a b n d (i+1) hs
     exact⟨e',h2,ov2,_,sZ step q,q2.1,q2.2.1,q2.2.2,p2,p3,he2,by decide⟩
   · rw[if_neg hm']at p4 ⊢
     subst p4
     obtain⟨e',h',ov',S',q1,q2,q3,q4,q5,q6,q7⟩:=Cb a b d hd n hn m (i+1) _ h2 ov2 (by omega) p2 rfl (by simp;omega)
     refine⟨e',h',ov',S',sZ step q1,q2,q3,q4,q5,p3.trans q6, ?_⟩
     dsimp only at q7 ⊢
     rw[he]
     exact q7
theorem yE {c:FC} {S:SS} {h:H} {ov:AV} (st:Ft c S h ov) (a b:AV) (hs:S.e≠0):
 ∃e',Lp AP.A [0,1,2] AP.f20L1 [(0,.aC c.f 0),(1,a),(2,b)] h=some (.exit 0,e',h):=by
 have gf:=st.gf
 refine⟨[(0,.aC c.f 0),(1,a),(2,b),(20,.bool false)],sY ?_⟩
 have c2:=tT hs
 simp only[I]at *
 simp only[AP.f20L1,go_sem,gf,c2]
theorem zr {c : FC} (ll dl : List Int) (hll : ll.length < 1000) (hdl : dl.length < 1000) : ∀ (k : Nat) (S : SS) (h : H) (ov : AV), Ft c S h ov → S.e = 0 → 8 * c.text.size < S.at_ + k →
 ∃e' h' ov' S',(Lp AP.A [0,1,2] AP.f20L1 [(0,.aC c.f 0),(1,vu ll),(2,vu dl)] h=some (.ret,e',h')∨Lp AP.A [0,1,2] AP.f20L1 [(0,.aC c.f 0),(1,vu ll),(2,vu dl)] h=some (.exit 0,e',h'))∧Ft c S' h' ov'∧FF c h ov h' ov'∧Fin (xH c.text c.most ll dl k S.at_ S.out) S'
 |0,S,h,ov,st,he,hk=>by have:=st.wP;omega
 | k + 1, S, h, ov, st, he, hk => by
   have gf:=st.gf
   rw[he]at gf
   obtain⟨h1,S1,z,s1,s2,s3,s4⟩:=AY ll hll st he
   have gf1:=s2.gf
   rw[xH]
   cases hz:xQ c.text ll 15 1 0 S.at_ with
   | none =>
     rw[hz]at s4
     obtain⟨s4,s5⟩:=s4
     have ce:(S1.e !=0)=true:=tW (by rw[s4];decide)
     refine⟨[(0,.aC c.f 0),(1,vu ll),(2,vu dl),(6,I z),(32,.bool true)],h1,ov,S1,.inl (tC ?_),s2,s3,s4,by decide⟩
     simp only[I]at *
     simp only[AP.f20L1,go_sem,gf,s1,gf1,ce]
   | some zp =>
     obtain⟨z2,p1⟩:=zp
     rw[hz]at s4
     obtain⟨s4,s5⟩:=s4
     subst s5 s4
     dsimp only at gf1
     rw[he]at gf1
     have zb:=xK hz
     obtain⟨y,hy⟩:∃n:Nat,z=n:=U9 zb.1
     subst hy
     dsimp only
     by_cases c1:(y:Int)<256
     · rw[if_pos c1]
       have w1:IntKind.wrap .u8 (y:Int)=y:=wrap_u8 (by omega)
       have c256:((y:Int)==256)=false:=tT (by omega)
       obtain⟨h2,ov2,S2,p1',p2',p3',p4'⟩:=FU s2 he y
       have step:aK (aQ AP.A) bz AP.f20L1 (ax [(0,.aC c.f 0),(1,vu ll),(2,vu dl)] [0,1,2]) h=some (.normal,[(0,.aC c.f 0),(1,vu ll),(2,vu dl)],h2):=by
        simp only[I]at *
        simp only[AP.f20L1,go_sem,gf,s1,gf1,c256,US c1,w1,p1']
       dsimp only at p4'
       by_cases hm:c.most≤S.out.length
       · rw[if_pos hm]at p4' ⊢
         have he2:S2.e=701:=by rw[p4']
         obtain⟨e',q⟩:=yE p2' (vu ll) (vu dl) (by rw[he2];decide)
         exact⟨e',h2,ov2,_,.inr (sZ step q),p2',s3.trans p3',he2,by decide⟩
       · rw[if_neg hm]at p4' ⊢
         subst p4'
         obtain⟨e',h',ov',S',q1,q2,q3,q4⟩:=zr ll dl hll hdl k _ h2 ov2 p2' rfl (by dsimp only;omega)
         refine⟨e',h',ov',S', ?_,q2,(s3.trans p3').trans q3,q4⟩
         rcases q1 with q1|q1
         · exact .inl (sZ step q1)
         · exact .inr (sZ step q1)
     · rw [if_neg c1]
       by_cases c2:(y:Int)=256
       · rw[if_pos c2]
         refine⟨[(0,.aC c.f 0),(1,vu ll),(2,vu dl),(6,I y),(32,.bool true)],h1,ov,_,.inl (tC ?_),s2,s3, ?_⟩
         · have c2':=tU c2
           simp only[I]at *
           simp only[AP.f20L1,go_sem,gf,s1,gf1,c2']
         · simp only[Fin];rw[he]
       · rw [if_neg c2]
         have c256:=tT c2
         have lo:=IG h1 y (by omega)
         rw[Vh]
         unfold Ao
         have n600:((600:Int) !=0)=true:=rfl
         have n0:((0:Int) !=0)=false:=rfl
         cases hlo:lenOf y with
         | none =>
           rw[hlo]at lo
           obtain⟨h2,f1,f2,f3⟩:=xN s2
           refine⟨[],h2,ov,_,.inl (tC ?_),f2,s3.trans f3,by simp [vo,he],by decide⟩
           simp only[I,zD]at *
           simp only[AP.f20L1,go_sem,gf,s1,gf1,c256,UQ c1,lo,n600,f1]
         | some le =>
           obtain⟨least,extra⟩:=le
           rw[hlo]at lo
           obtain⟨b1,b2,b3⟩:=EZ hlo
           obtain⟨h2,k1,k2,k3⟩:=xw s2 extra extra rfl (by omega)
           dsimp only
           by_cases hp:p1+extra≤8* c.text.size
           · have eg : vE c extra { S with at_ := p1 } = (vi c.text p1 extra, { S with at_ := p1 + extra }) := by rw [vE, if_pos hp]
             rw[eg]at k1 k2
             dsimp only at k1 k2
             rw[if_pos hp]
             have gf2:=k2.gf
             dsimp only at gf2
             rw[he]at gf2
             have hve:=vU c.text p1 extra
             have hve2:2^extra≤2^5:=U4 (by omega) b2
             have w1:IntKind.wrap .i64 ((least:Int)+(vi c.text p1 extra:Int))=((least+vi c.text p1 extra:Nat):Int):=by
              rw[show(least:Int)+(vi c.text p1 extra:Int)=((least+vi c.text p1 extra:Nat):Int)by omega];exact u5 (by omega)
             obtain⟨h3,S3,z,s1',s2',s3',s4'⟩:=AY dl hdl k2 he
             have gf3:=s2'.gf
             dsimp only at s4'
             cases hz2:xQ c.text dl 15 1 0 (p1+extra)with
             | none =>
               rw[hz2]at s4'
               obtain⟨s4',s5'⟩:=s4'
               have ce3:(S3.e !=0)=true:=tW (by rw[s4'];decide)
               refine⟨[(0,.aC c.f 0),(1,vu ll),(2,vu dl),(10,I (least+vi c.text p1 extra:Nat)),(11,I z),(66,.bool true)],h3,ov,S3,.inl (tC ?_),s2',(s3.trans k3).trans s3',s4',by decide⟩
               simp only[I,zD]at *
               simp only[AP.f20L1,go_sem,gf,s1,gf1,c256,UQ c1,lo,n0,k1,w1,gf2,s1',gf3,ce3]
             | some zp =>
               obtain⟨z2,p2⟩:=zp
               rw[hz2]at s4'
               obtain⟨s4',s5'⟩:=s4'
               subst s5' s4'
               have zb2:=xK hz2
               obtain⟨zn,hzn⟩:∃n:Nat,z=n:=U9 zb2.1
               subst hzn
               have dob:=Hp h3 zn (by omega)
               dsimp only at gf3 ⊢
               rw[he]at gf3
               rw[Vh]
               cases hdo:xI zn with
               | none =>
                 rw[hdo]at dob
                 obtain⟨h4,f1,f2,f3⟩:=xN s2'
                 refine⟨[],h4,ov,_,.inl (tC ?_),f2,((s3.trans k3).trans s3').trans f3,by simp [vo,he],by decide⟩
                 simp only[I,zD]at *
                 simp only[AP.f20L1,go_sem,gf,s1,gf1,c256,UQ c1,lo,n0,k1,w1,gf2,s1',gf3,dob,n600,f1]
               | some lx =>
                 obtain⟨ld,xd⟩:=lx
                 rw[hdo]at dob
                 obtain⟨d1,d2,d3⟩:=De hdo
                 obtain⟨h4,v1,v2,v3⟩:=xw s2' xd xd rfl (by omega)
                 obtain⟨x,hx⟩:∃x,x=(vE c xd {S with at_:=p2}).1:=⟨_,rfl⟩
                 obtain⟨S4,hS4⟩:∃x,x=(vE c xd {S with at_:=p2}).2:=⟨_,rfl⟩
                 rw[←hx]at v1;rw[←hS4]at v2
                 have hxb:x<65536:=hx ▸ D4 c _ xd (by omega)
                 have w2:IntKind.wrap .i64 ((ld:Int)+(x:Int))=((ld+x:Nat):Int):=by
                  rw[show(ld:Int)+(x:Int)=((ld+x:Nat):Int)by omega];exact u5 (by omega)
                 have gf4:=v2.gf
                 have ln:=v2.own.len
                 rw[xu]at ln
                 have frs:=((s3.trans k3).trans s3').trans v3
                 dsimp only
                 have toLoop:∀(h5:H) (e6:Env) (h6:H),((S4.e=0∧S4.out.length<ld+x∧aQ AP.A 25 [.aC c.f 0] h4=some (.bO [],h5))∨((S4.e≠0∨¬S4.out.length<ld+x)∧h5=h4))→Lp AP.A [0,1,2,10,14,15] AP.f20L0 [(0,.aC c.f 0),(1,vu ll),(2,vu dl),(10,I (least+vi c.text p1 extra:Nat)),(14,I (ld+x:Nat)),(15,I 0)] h5=some (.exit 2,e6,h6)→
                  look e6 0=.aC c.f 0→look e6 1=vu ll→look e6 2=vu dl→aK (aQ AP.A) bz AP.f20L1 (ax [(0,.aC c.f 0),(1,vu ll),(2,vu dl)] [0,1,2]) h=some (.normal,[(0,.aC c.f 0),(1,vu ll),(2,vu dl)],h6):=by
                  intro h5 e6 h6 hcase q6 l0 l1 l2
                  rcases hcase with ⟨g1,g2,g3⟩|⟨g1,rfl⟩
                  · have g2':(S4.out.length:Int)<((ld+x:Nat):Int):=by omega
                    have g1':=tU g1
                    simp only[I,zD]at *
                    simp only[AP.f20L1,go_sem,gf,s1,gf1,c256,UQ c1,lo,n0,k1,w1,gf2,s1',gf3,dob,v1,w2,gf4,g1',ln,US g2',g3,rR,q6,l0,l1,l2]
                  · by_cases g3:S4.e=0
                    · have g2:¬S4.out.length<ld+x:=by
                       rcases g1 with q|q
                       · exact absurd g3 q
                       · exact q
                      have g2':¬(S4.out.length:Int)<((ld+x:Nat):Int):=by omega
                      have g1':=tU g3
                      clear g1
                      simp only[I,zD]at *
                      simp only[AP.f20L1,go_sem,gf,s1,gf1,c256,UQ c1,lo,n0,k1,w1,gf2,s1',gf3,dob,v1,w2,gf4,g1',ln,UQ g2',rR,q6,l0,l1,l2]
                    · have g1':=tT g3
                      clear g1
                      simp only[I,zD]at *
                      simp only[AP.f20L1,go_sem,gf,s1,gf1,c256,UQ c1,lo,n0,k1,w1,gf2,s1',gf3,dob,v1,w2,gf4,g1',ln,rR,q6,l0,l1,l2]
                 by_cases hp2:p2+xd≤8* c.text.size
                 · have egx:vE c xd {S with at_:=p2}=(vi c.text p2 xd,{S with at_:=p2+xd}):=by rw[vE,if_pos hp2]
                   rw[egx]at hx hS4;dsimp only at hx hS4
                   subst hS4
                   rw[←hx]
                   by_cases hbk:S.out.length<ld+x
                   · rw[if_neg (fun q=>by omega)]
                     obtain⟨h5,f1,f2,f3⟩:=xN v2
                     have he5:(vo 700 {S with at_:=p2+xd}).e=700:=by simp [vo,he]
                     obtain⟨e6,q6,q7,q8,q9⟩:=y8 f2 (vu ll) (vu dl) (least+vi c.text p1 extra) (ld+x) 0 (.inr ⟨by omega,by rw[he5];decide⟩)
                     have step:=toLoop h5 e6 h5 (.inl ⟨he,hbk,f1⟩) q6 q7 q8 q9
                     obtain⟨e',q⟩:=yE f2 (vu ll) (vu dl) (by rw[he5];decide)
                     exact⟨e',h5,ov,_,.inr (sZ step q),f2,frs.trans f3,he5,by decide⟩
                   · rw[if_pos ⟨hp2,by omega⟩]
                     obtain⟨e6,h6,ov6,S6,q1,q2,q3,q4,q5,q6,q7⟩:=Cb (c:=c) (vu ll) (vu dl) (ld+x) (by omega) (least+vi c.text p1 extra) (by omega) (least+vi c.text p1 extra) 0 _ h4 ov (by omega) v2 he (by dsimp only;omega)
                     have step:=toLoop h4 e6 h6 (.inr ⟨.inr hbk,rfl⟩) q1 q2 q3 q4
                     dsimp only at q7
                     cases hcl:zk c.most (ld+x) (least+vi c.text p1 extra) S.out with
                     | error q =>
                       rw[hcl]at q7
                       obtain⟨e',q'⟩:=yE q5 (vu ll) (vu dl) (by rw[q7.1];exact q7.2)
                       exact⟨e',h6,ov6,S6,.inr (sZ step q'),q5,frs.trans q6,q7⟩
                     | ok o =>
                       rw[hcl]at q7
                       dsimp only at q7
                       subst q7
                       obtain⟨e',h',ov',S',r1,r2,r3,r4⟩:=zr ll dl hll hdl k _ h6 ov6 q5 he (by dsimp only;omega)
                       refine⟨e',h',ov',S', ?_,r2,(frs.trans q6).trans r3,r4⟩
                       rcases r1 with r1|r1
                       · exact .inl (sZ step r1)
                       · exact .inr (sZ step r1)
                 · rw[if_neg (fun q=>hp2 q.1)]
                   have he4:S4.e=700:=by rw[hS4,vE,if_neg hp2];simp [vo,he]
                   obtain⟨e6,q6,q7,q8,q9⟩:=y8 v2 (vu ll) (vu dl) (least+vi c.text p1 extra) (ld+x) 0 (.inr ⟨by omega,by rw[he4];decide⟩)
                   have step:=toLoop h4 e6 h4 (.inr ⟨.inl (by rw[he4];decide),rfl⟩) q6 q7 q8 q9
                   obtain⟨e',q⟩:=yE v2 (vu ll) (vu dl) (by rw[he4];decide)
                   exact⟨e',h4,ov,_,.inr (sZ step q),v2,frs,he4,by decide⟩
           · have eg:vE c extra {S with at_:=p1}=(0,{S with at_:=p1,e:=700}):=by rw[vE,if_neg hp,vo,if_pos he]
             rw[eg]at k1 k2
             dsimp only at k1 k2
             rw[if_neg hp]
             have gf2:=k2.gf
             have w1:IntKind.wrap .i64 ((least:Int)+((0:Nat):Int))=((least:Nat):Int):=by
              rw[show(least:Int)+((0:Nat):Int)=((least:Nat):Int)by omega];exact u5 (by omega)
             have n7:((700:Int) !=0)=true:=rfl
             refine⟨[(0,.aC c.f 0),(1,vu ll),(2,vu dl),(10,I least),(58,.bool true)],h2,ov,_,.inl (tC ?_),k2,s3.trans k3,rfl,by decide⟩
             simp only[I,zD]at *
             simp only[AP.f20L1,go_sem,gf,s1,gf1,c256,UQ c1,lo,n0,k1,w1,gf2,n7]
theorem EP {c:FC} {S:SS} {h:H} {ov:AV} (ll dl:List Int) (hll:ll.length<1000) (hdl:dl.length<1000) (st:Ft c S h ov) (he:S.e=0):
 ∃h' ov' S',aQ AP.A 20 [.aC c.f 0,vu ll,vu dl] h=some (.bO [],h')∧Ft c S' h' ov'∧FF c h ov h' ov'∧Fin (xH c.text c.most ll dl (8* c.text.size+1) S.at_ S.out) S':=by
 obtain⟨e',h',ov',S',q1,q2,q3,q4⟩:=zr ll dl hll hdl (8* c.text.size+1) S h ov st he (by omega)
 refine⟨h',ov',S', ?_,q2,q3,q4⟩
 rcases q1 with q1|q1
 · refine tr (fn:=AP.f20) (e:=e') (vs:=[]) rfl rfl rfl ?_ rfl
   simp only[AP.f20,go_sem,rR,q1]
 · refine vZ (fn:=AP.f20) (e:=[]) (vs:=[]) rfl rfl rfl ?_ rfl
   simp only[AP.f20,go_sem,rR,q1]
theorem IY (h:H):aQ AP.A 32 [] h=some (wk vH,h):=by
 have b:aX [] (.cR 1 19 [.int .i64 0] [(0,(.c (.int .i64 16))),(1,(.c (.int .i64 17))),(2,(.c (.int .i64 18))),(3,(.c (.int .i64 0))),(4,(.c (.int .i64 8))),(5,(.c (.int .i64 7))),(6,(.c (.int .i64 9))),(7,(.c (.int .i64 6))),(8,(.c (.int .i64 10))),(9,(.c (.int .i64 5))),(10,(.c (.int .i64 11))),(11,(.c (.int .i64 4))),(12,(.c (.int .i64 12))),(13,(.c (.int .i64 3))),(14,(.c (.int .i64 13))),(15,(.c (.int .i64 2))),(16,(.c (.int .i64 14))),(17,(.c (.int .i64 1))),(18,(.c (.int .i64 15)))])=some (ints vH,fun i=>.aD i 0 19 1):=rfl
 refine tM (fn:=AP.f32) (h2:=h.dX.alloc (ints vH)) (e:=[(0,.aD h.next 0 19 1)]) (vs:=[.aD h.next 0 19 1]) rfl rfl rfl ?_ rfl ?_
 · have hn:h.dX.next=h.next:=rfl
   simp only[AP.f32,go_sem,b,hn]
 · show snap (h.dX.alloc (ints vH)).get h.next 16 true (.aD h.next 0 19 1)=_
   unfold snap
   rw[if_neg (by omega),H.aV,if_pos (show h.next=h.dX.next from rfl),uC,if_pos (by decide)]
   rw[show((ints vH).drop 0).take (19* 1)=ints vH from rfl,xh];rfl
theorem yw {h:H} {v:AV} {l:List Int} {fl:Nat} (o:mX h v (ints l)) (hf:fl≤h.floor) (hl:l≠[]):snap h.get fl 16 true v=some (wk l):=by
 rcases o with ⟨_,q⟩|⟨id,rfl,q,h2,_⟩
 · exact absurd (List.map_eq_nil_iff.1 q) hl
 · unfold snap
   rw[if_neg (by omega),q,uC,if_pos (by omega)]
   rw[U1,Vk,List.take_length,xh]
   simp [wk]
def fixF (i:Nat):Int:=if 144≤i∧i<256 then 9 else if 256≤i∧i<280 then 7 else 8
theorem Bp : ∀ (m i : Nat) (h : H) (v : AV), i + m = 288 → mX h v (ints ((List.range i).map fixF)) → h.floor ≤ h.next →
 ∃e' h' v',Lp AP.A [1,2] AP.f22L0 [(1,v),(2,I i)] h=some (.exit 0,e',h')∧look e' 1=v'∧mX h' v' (ints ((List.range 288).map fixF))∧h'.floor=h.floor
 | 0, i, h, v, hm, o, hf => by
   obtain rfl:i=288:=by omega
   refine⟨[(1,v),(2,I 288),(5,.bool false)],h,v,sY ?_,rfl,o,rfl⟩
   have c1:¬(((288:Nat):Int)<288):=by omega
   simp only[I]at *
   simp only[AP.f22L0,go_sem,UQ c1]
   rfl
 | m + 1, i, h, v, hm, o, hf => by
   have c1:(i:Int)<288:=by omega
   have w1:IntKind.wrap .i64 ((i:Int)+1)=((i+1:Nat):Int):=u5 (n:=i+1) (by omega)
   obtain⟨g,hg⟩:∃g,g=h.alloc [I (fixF i)]:=⟨_,rfl⟩
   have og:mX g v (ints ((List.range i).map fixF)):=o.mono (by rw[hg];simp) fun j hj=>by have:=o.lt hj;rw[hg,H.aV,if_neg (by omega)]
   have hgf:g.floor≤g.next:=by rw[hg];simp;omega
   obtain⟨v',h2,r1,r2,r3,r4,r5,r6⟩:=og.app hgf (z:=8) (I (fixF i)) rfl (by simp [roomy];omega)
   have src:aR g 1 (.aD h.next 0 1 1)=some (1,[I (fixF i)]):=by simp [aR,hg,H.aV]
   have ap:kD g 1 8 v (.aD h.next 0 1 1)=some (v',h2):=by unfold kD;rw[src,uC];exact r1
   have bt:∀e:Env,look e 21=.int .i64 (fixF i)→aX e (.cR 1 1 [.int .i64 0] [(0,.t 21)])=some ([.int .i64 (fixF i)],fun i=>.aD i 0 1 1):=by
    intro e q;simp only[aX,U5,Vf,rU,q];rfl
   have hr:ints ((List.range i).map fixF)++[I (fixF i)]=ints ((List.range (i+1)).map fixF):=by
    rw[List.range_succ,Va,pq];rfl
   rw[hr]at r2
   have step:aK (aQ AP.A) bz AP.f22L0 (ax [(1,v),(2,I i)] [1,2]) h=some (.normal,[(1,v'),(2,I (i+1:Nat))],h2):=by
    clear hr
    by_cases q1:144≤i
    · have d1:(144:Int)≤i:=by omega
      by_cases q2:i<256
      · have d2:(i:Int)<256:=by omega
        have hx:fixF i=9:=by rw[fixF,if_pos ⟨q1,q2⟩]
        rw[hx]at hg bt
        simp only[I]at *
        simp only[AP.f22L0,go_sem,US c1,US d1,US d2]
        rw[bt _ rfl]
        simp only[go_sem,←hg,ap,w1]
      · have d2:¬(i:Int)<256:=by omega
        have d3:(256:Int)≤i:=by omega
        by_cases q3:i<280
        · have d4:(i:Int)<280:=by omega
          have hx:fixF i=7:=by rw[fixF,if_neg (by omega),if_pos ⟨by omega,q3⟩]
          rw[hx]at hg bt
          simp only[I]at *
          simp only[AP.f22L0,go_sem,US c1,US d1,UQ d2,US d3,US d4]
          rw[bt _ rfl]
          simp only[go_sem,←hg,ap,w1]
        · have d4:¬(i:Int)<280:=by omega
          have hx:fixF i=8:=by rw[fixF,if_neg (by omega),if_neg (by omega)]
          rw[hx]at hg bt
          simp only[I]at *
          simp only[AP.f22L0,go_sem,US c1,US d1,UQ d2,US d3,UQ d4]
          rw[bt _ rfl]
          simp only[go_sem,←hg,ap,w1]
    · have d1:¬(144:Int)≤i:=by omega
      have d3:¬(256:Int)≤i:=by omega
      have hx:fixF i=8:=by rw[fixF,if_neg (by omega),if_neg (by omega)]
      rw[hx]at hg bt
      simp only[I]at *
      simp only[AP.f22L0,go_sem,US c1,UQ d1,UQ d3]
      rw[bt _ rfl]
      simp only[go_sem,←hg,ap,w1]
   obtain⟨e',h',v2,s1,s2,s3,s4⟩:=Bp m (i+1) h2 v' (by omega) r2 (by rw[r3];exact uX hgf r4)
   exact⟨e',h',v2,sZ step s1,s2,s3,by rw[s4,r3,hg];simp⟩
theorem Hs:(List.range 288).map fixF=wB:=by decide+kernel
theorem Iv (h:H):aQ AP.A 22 [] h=some (wk wB,h):=by
 obtain⟨e',h',v',s1,s2,s3,s4⟩:=Bp 288 0 h.dX .aO rfl (.inl ⟨rfl,rfl⟩) (uF _)
 have s1':Lp AP.A [1,2] AP.f22L0 [(1,.aO),(2,I 0)] h.dX=some (.exit 0,e',h'):=s1
 clear s1
 rw[Hs]at s3
 refine tM (fn:=AP.f22) (h2:=h') (e:=[(0,v')]) (vs:=[v']) rfl rfl rfl ?_ rfl ?_
 · simp only[I]at *
   simp only[AP.f22,go_sem,rR,s1',s2]
 · exact yw s3 (by rw[s4];exact uF _) (by intro e;have:=Vi List.length e;rw[yA]at this;simp at this)
theorem Cc (id : Nat) : ∀ (m i : Nat) (h : H), i + m = 30 → h.get id = some (ints (List.replicate i 5 ++ List.replicate m 0)) → h.floor ≤ id →
 ∃e' h',Lp AP.A [1,2] AP.f23L0 [(1,.aD id 0 30 1),(2,I i)] h=some (.exit 0,e',h')∧look e' 1=.aD id 0 30 1∧h'.get id=some (ints (List.replicate 30 5))∧h'.floor=h.floor
 | 0, i, h, hm, hg, hf => by
   obtain rfl:i=30:=by omega
   refine⟨[(1,.aD id 0 30 1),(2,I 30),(5,.bool false)],h,sY ?_,rfl,hg,rfl⟩
   have c1:¬(((30:Nat):Int)<30):=by omega
   simp only[I]at *
   simp only[AP.f23L0,go_sem,UQ c1]
   rfl
 | m + 1, i, h, hm, hg, hf => by
   have c1:(i:Int)<30:=by omega
   have w1:IntKind.wrap .i64 ((i:Int)+1)=((i+1:Nat):Int):=u5 (n:=i+1) (by omega)
   have ia:fU 1 (.aD id 0 30 1) (I i)=some (.aC id i):=by simp [fU,ki (show i<30 by omega)]
   have hset:(ints (List.replicate i 5++List.replicate (m+1) 0)).set i (I 5)=ints (List.replicate (i+1) 5++List.replicate m 0):=by
    have h1:(List.replicate i (5:Int)++List.replicate (m+1) 0).set i 5=List.replicate (i+1) 5++List.replicate m 0:=by
     rw[List.set_append_right _ _ (by simp),Vc,Nat.sub_self,List.replicate_succ,List.set_cons_zero,List.replicate_succ',List.append_assoc];rfl
    rw[←h1];simp [ints,List.map_set]
   have hst:tO h id i 1 [I 5] (some (ints (List.replicate i 5++List.replicate (m+1) 0)))=some (h.set id (ints (List.replicate (i+1) 5++List.replicate m 0))):=by
    rw[uh hf (by rw[pt];simp) rfl,hset]
   have step:aK (aQ AP.A) bz AP.f23L0 (ax [(1,.aD id 0 30 1),(2,I i)] [1,2]) h=some (.normal,[(1,.aD id 0 30 1),(2,I (i+1:Nat))],h.set id (ints (List.replicate (i+1) 5++List.replicate m 0))):=by
    clear hset
    generalize ints (List.replicate (i+1) 5++List.replicate m 0)=L1 at *
    generalize ints (List.replicate i 5++List.replicate (m+1) 0)=L0 at *
    simp only[I]at *
    simp only[AP.f23L0,go_sem,US c1,ia,hg,hst,w1]
   obtain⟨e',h',s1,s2,s3,s4⟩:=Cc id m (i+1) _ (by omega) (by rw[H.dE,if_pos rfl,hg];rfl) (by simpa using hf)
   exact⟨e',h',sZ step s1,s2,s3,by rw[s4];simp⟩
theorem J1 (h:H):aQ AP.A 23 [] h=some (wk (List.replicate 30 5),h):=by
 obtain⟨h1,hh1⟩:∃g,g=h.dX.alloc (ints (List.replicate 30 0)):=⟨_,rfl⟩
 have hg:h1.get h.next=some (ints (List.replicate 0 5++List.replicate 30 0)):=by rw[hh1,H.aV,if_pos (show h.next=h.dX.next from rfl)];rfl
 obtain⟨e',h',s1,s2,s3,s4⟩:=Cc h.next 30 0 h1 rfl hg (by rw[hh1];simp)
 have s1':Lp AP.A [1,2] AP.f23L0 [(1,.aD h.next 0 30 1),(2,I 0)] h1=some (.exit 0,e',h'):=s1
 clear s1
 have bt:∀e:Env,aX e (.iU 1 8 [.int .i64 0] (.c (.int .i64 30)) (.c (.int .i64 30)))=some (ints (List.replicate 30 0),fun i=>.aD i 0 30 1):=fun _=>rfl
 have hn:h.dX.next=h.next:=rfl
 refine tM (fn:=AP.f23) (h2:=h') (e:=[(0,.aD h.next 0 30 1)]) (vs:=[.aD h.next 0 30 1]) rfl rfl rfl ?_ rfl ?_
 · simp only[I]at *
   simp only[AP.f23,go_sem,bt,←hh1,hn,rR,s1',s2]
 · exact yw (l:=List.replicate 30 5) (.inr ⟨h.next,rfl,s3,by rw[s4,hh1];simp,by decide⟩) (by rw[s4,hh1];simp) (by decide)
theorem Dr {x:AV} {l:List Int} (hl:l.length<100000) (h:H) (rd:Rd h x (ints l)):∀(q p:List Int),l=p++q→
 (∃e',Lp AP.A [0,3] AP.f67L0 [(0,x),(3,I p.length)] h=some (.exit 0,e',h)∧(ints q).any zQ=false)∨(∃e',Lp AP.A [0,3] AP.f67L0 [(0,x),(3,I p.length)] h=some (.ret,e',h)∧look e' 2=.bool false∧(ints q).any zQ=true)
 | [], p, hp => by
   have ln:=rd.len
   rw[pt]at ln
   left
   refine⟨[(0,x),(3,I p.length),(15,.bool false)],sY ?_,rfl⟩
   have c1:¬(p.length:Int)<(l.length:Int):=by rw[hp];simp
   simp only[I]at *
   simp only[AP.f67L0,go_sem,ln,UQ c1]
 | y :: q, p, hp => by
   have ln:=rd.len
   rw[pt]at ln
   have hlen:l.length=p.length+(q.length+1):=by rw[hp];simp
   have c1:(p.length:Int)<(l.length:Int):=by omega
   have hv:(ints l)[p.length]?=some (I y):=sG (by rw[hp];simp)
   obtain⟨ad,p1,p2⟩:=rd.elem hv
   have p3:=p2 h (fun _ _ q=>q)
   have w1:IntKind.wrap .i64 ((p.length:Int)+1)=(((p++[y]).length:Nat):Int):=by
    rw[uZ];exact u5 (n:=p.length+1) (by omega)
   have hany:(ints (y::q)).any zQ=(zQ (I y)||(ints q).any zQ):=rfl
   rw[hany]
   by_cases d1:y<0
   · right
     refine⟨[(2,.bool false)],tC ?_,rfl,by simp [zQ,I,d1]⟩
     simp only[I]at *
     simp only[AP.f67L0,go_sem,ln,US c1,p1,p3,US d1]
   by_cases d2:15<y
   · right
     refine⟨[(2,.bool false)],tC ?_,rfl,by simp [zQ,I,d2]⟩
     simp only[I]at *
     simp only[AP.f67L0,go_sem,ln,US c1,p1,p3,UQ d1,US d2]
   have hb:zQ (I y)=false:=by simp [zQ,I];omega
   have step:aK (aQ AP.A) bz AP.f67L0 (ax [(0,x),(3,I p.length)] [0,3]) h=some (.normal,[(0,x),(3,I (p++[y]).length)],h):=by
    clear hany hb
    generalize (p++[y]).length=B at *
    simp only[I]at *
    simp only[AP.f67L0,go_sem,ln,US c1,p1,p3,UQ d1,UQ d2,w1]
   rw[hb,Bool.false_or]
   rcases Dr hl h rd q (p++[y]) (by rw[hp];simp)with ⟨e',r1,r2⟩|⟨e',r1,r2,r3⟩
   · exact .inl ⟨e',sZ step r1,r2⟩
   · exact .inr ⟨e',sZ step r1,r2,r3⟩
theorem PA (h:H) (x:AV) (l:List Int) (hl:l.length<100000) (rd:Rd h x (ints l)):aQ AP.A 67 [x] h=some (.bool (BA l),h):=by
 have rd':=rd.mono (vv h)
 have ln:=rd.len
 rw[pt]at ln
 unfold BA
 by_cases c1:l.length<1
 · refine tM (fn:=AP.f67) (h2:=h.dX) (e:=[(2,.bool false)]) rfl rfl rfl ?_ rfl (by rw[UQ (show¬1≤l.length by omega)];rfl)
   have c1':(l.length:Int)<1:=by omega
   simp only[I]at *
   simp only[AP.f67,go_sem,ln,US c1']
 have c1':¬(l.length:Int)<1:=by omega
 by_cases c2:288<l.length
 · refine tM (fn:=AP.f67) (h2:=h.dX) (e:=[(2,.bool false)]) rfl rfl rfl ?_ rfl (by rw[UQ (show¬l.length≤288 by omega),U3];rfl)
   have c2':(288:Int)<(l.length:Int):=by omega
   simp only[I]at *
   simp only[AP.f67,go_sem,ln,UQ c1',US c2']
 have c2':¬(288:Int)<(l.length:Int):=by omega
 rw[US (show 1≤l.length by omega),US (show l.length≤288 by omega)]
 rcases Dr hl h.dX rd' l [] rfl with ⟨e',r1,r2⟩|⟨e',r1,r2,r3⟩
 · have r1':Lp AP.A [0,3] AP.f67L0 [(0,x),(3,I 0)] h.dX=some (.exit 0,e',h.dX):=r1
   clear r1
   rw[r2]
   refine tM (fn:=AP.f67) (h2:=h.dX) (e:=[(2,.bool true)]) rfl rfl rfl ?_ rfl rfl
   simp only[I]at *
   simp only[AP.f67,go_sem,ln,UQ c1',UQ c2',rR,r1']
 · have r1':Lp AP.A [0,3] AP.f67L0 [(0,x),(3,I 0)] h.dX=some (.ret,e',h.dX):=r1
   clear r1
   rw[r3]
   refine tM (fn:=AP.f67) (h2:=h.dX) (e:=e') (vs:=[.bool false]) rfl rfl rfl ?_ (by simp only[AP.f67,cL,mQ,r2];rfl) rfl
   simp only[I]at *
   simp only[AP.f67,go_sem,ln,UQ c1',UQ c2',rR,r1']
theorem Cm (p:List Int) (x:Int):∀n:Nat,vP (p++[x]) n=vP p n-(if 1≤x∧x≤n then 2^(n-x.toNat)else 0)
 | 0 => by
   rw[if_neg (by omega)];simp [vP]
 | n + 1 => by
   have e1:vP (p++[x]) (n+1)=vP (p++[x]) n* 2-xZ (p++[x]) (n+1):=rfl
   have e2:vP p (n+1)=vP p n* 2-xZ p (n+1):=rfl
   rw[e1,e2,Cm p x n,Ak]
   by_cases h1:x=((n+1:Nat):Int)
   · rw[if_neg (by omega),if_pos ⟨by omega,h1⟩,if_pos (by omega)]
     rw[show n+1-x.toNat=0 by omega];simp;omega
   · rw[if_neg (show¬(n+1≠0∧x=((n+1:Nat):Int))from fun q=>h1 q.2)]
     by_cases h2:1≤x∧x≤(n:Int)
     · rw[if_pos h2,if_pos (by omega),show n+1-x.toNat=(n-x.toNat)+1 by omega,Int.pow_succ];omega
     · rw[if_neg h2,if_neg (by omega)];omega
theorem DF {x : AV} {l : List Int} (hl : l.length < 100000) (hr : xx l) (h : H) (rd : Rd h x (ints l)) : ∀ (q p : List Int), l = p ++ q →
 ∃e',Lp AP.A [0,3,4] AP.f68L0 [(0,x),(3,I (32768-vP p 15)),(4,I p.length)] h=some (.exit 0,e',h)∧look e' 3=I (32768-vP l 15)
 | [], p, hp => by
   rw[UX]at hp;subst hp
   have ln:=rd.len
   rw[pt]at ln
   refine⟨[(0,x),(3,I (32768-vP l 15)),(4,I l.length),(8,.bool false)],sY ?_,rfl⟩
   have c1:¬(l.length:Int)<(l.length:Int):=by omega
   simp only[I]at *
   simp only[AP.f68L0,go_sem,ln,UQ c1]
 | y :: q, p, hp => by
   have ln:=rd.len
   rw[pt]at ln
   have hlen:l.length=p.length+(q.length+1):=by rw[hp];simp
   have c1:(p.length:Int)<(l.length:Int):=by omega
   have hv:(ints l)[p.length]?=some (I y):=sG (by rw[hp];simp)
   have hy:=hr y (by rw[hp];simp)
   obtain⟨ad,p1,p2⟩:=rd.elem hv
   have p3:=p2 h (fun _ _ q=>q)
   have w1:IntKind.wrap .i64 ((p.length:Int)+1)=(((p++[y]).length:Nat):Int):=by
    rw[uZ];exact u5 (n:=p.length+1) (by omega)
   have hsn:=Cm p y 15
   have hbd:=EY (show p.length<100000 by omega) 15
   have step:aK (aQ AP.A) bz AP.f68L0 (ax [(0,x),(3,I (32768-vP p 15)),(4,I p.length)] [0,3,4]) h=some (.normal,[(0,x),(3,I (32768-vP (p++[y]) 15)),(4,I (p++[y]).length)],h):=by
    by_cases d1:0<y
    · obtain⟨yn,hyn⟩:∃n:Nat,y=n:=U9 hy.1
      subst hyn
      rw[if_pos (by omega),Vh]at hsn
      have w2:IntKind.wrap .i64 (15-(yn:Int))=((15-yn:Nat):Int):=by rw[show 15-(yn:Int)=((15-yn:Nat):Int)by omega];exact u5 (by omega)
      have hp15:2^(15-yn)≤2^15:=U4 (by omega) (by omega)
      have s1:oV .shl .i64 1 ((15-yn:Nat):Int)=some (.int .i64 ((2^(15-yn):Nat):Int)):=by
       have:=yq (a:=1) (s:=15-yn) (by omega) (by omega)
       rw[Nat.one_mul]at this;exact this
      have hpc:((2^(15-yn):Nat):Int)=2^(15-yn):=by simp
      have hpos:(0:Int)≤2^(15-yn):=Int.pow_nonneg (by omega)
      have w3:IntKind.wrap .i64 (32768-vP p 15+((2^(15-yn):Nat):Int))=32768-vP (p++[(yn:Int)]) 15:=by
       rw[show 32768-vP p 15+((2^(15-yn):Nat):Int)=32768-vP (p++[(yn:Int)]) 15 by rw[hsn,hpc];omega]
       refine tx ?_ ?_
       · rw[hsn];rw[←hpc];omega
       · rw[hsn];rw[←hpc];omega
      clear hsn hpc hbd hp15
      generalize (p++[(yn:Int)]).length=B at *
      generalize vP (p++[(yn:Int)]) 15=L2 at *
      generalize vP p 15=L1 at *
      generalize 2^(15-yn)=PW at *
      simp only[I]at *
      simp only[AP.f68L0,go_sem,ln,US c1,p1,p3,US d1,w2,s1,w3,w1]
    · rw[if_neg (by omega),Int.sub_zero]at hsn
      rw[hsn]
      clear hsn hbd
      generalize (p++[y]).length=B at *
      simp only[I]at *
      simp only[AP.f68L0,go_sem,ln,US c1,p1,p3,UQ d1,w1]
   obtain⟨e',r1,r2⟩:=DF hl hr h rd q (p++[y]) (by rw[hp];simp)
   exact⟨e',sZ step r1,r2⟩
theorem PT (h:H) (x:AV) (l:List Int) (hl:l.length<100000) (hr:xx l) (rd:Rd h x (ints l)):aQ AP.A 68 [x] h=some (I (32768-vP l 15),h):=by
 obtain⟨e',r1,r2⟩:=DF hl hr h.dX (rd.mono (vv h)) l [] rfl
 have r1':Lp AP.A [0,3,4] AP.f68L0 [(0,x),(3,I 0),(4,I 0)] h.dX=some (.exit 0,e',h.dX):=r1
 clear r1
 refine tM (fn:=AP.f68) (h2:=h.dX) (e:=[(2,I (32768-vP l 15))]) rfl rfl rfl ?_ rfl rfl
 simp only[I]at *
 simp only[AP.f68,go_sem,rR,r1',r2]
theorem BZ (h : H) (x : AV) (l : List Int) (hl : l.length < 100000) (rd : Rd h x (ints l)) : aQ AP.A 52 [x] h = some (I (vR l), h) := by
 have rd':=rd.mono (vv h)
 have k1:=PA h.dX x l hl rd'
 unfold vR
 by_cases hm:BA l=true
 · have k2:=PT h.dX x l hl (Dz hm) rd'
   rw[hm]at k1 ⊢
   rw[if_neg (by decide)]
   by_cases c1:vP l 15<0
   · rw[if_pos c1]
     have d1:32768<32768-vP l 15:=by omega
     refine tM (fn:=AP.f52) (h2:=h.dX) (e:=[(2,I 301)]) rfl rfl rfl ?_ rfl rfl
     simp only[I]at *
     simp only[AP.f52,go_sem,k1,k2,US d1]
   · rw[if_neg c1]
     have d1:¬32768<32768-vP l 15:=by omega
     by_cases c2:0<vP l 15
     · rw[if_pos c2]
       have d2:32768-vP l 15<32768:=by omega
       refine tM (fn:=AP.f52) (h2:=h.dX) (e:=[(2,I 302)]) rfl rfl rfl ?_ rfl rfl
       simp only[I]at *
       simp only[AP.f52,go_sem,k1,k2,UQ d1,US d2]
     · rw[if_neg c2]
       have d2:¬32768-vP l 15<32768:=by omega
       refine tM (fn:=AP.f52) (h2:=h.dX) (e:=[(2,I 0)]) rfl rfl rfl ?_ rfl rfl
       simp only[I]at *
       simp only[AP.f52,go_sem,k1,k2,UQ d1,UQ d2]
 · have hm':BA l=false:=by simpa using hm
   rw[hm']at k1 ⊢
   rw[if_pos rfl]
   refine tM (fn:=AP.f52) (h2:=h.dX) (e:=[(2,I 300)]) rfl rfl rfl ?_ rfl rfl
   simp only[I]at *
   simp only[AP.f52,go_sem,k1]
theorem zB {x : AV} {l : List Int} (hl : l.length < 100000) (hr : xx l) (h : H) (rd : Rd h x (ints l)) : ∀ (q p : List Int) (m b s : Int), l = p ++ q → 0 ≤ m → m ≤ p.length → m ≤ s → (m = 0 → s = 0) → (m = 1 → b = s) →
 ∃e' m' b',Lp AP.A [0,3,4,5] AP.f54L0 [(0,x),(3,I m),(4,I b),(5,I p.length)] h=some (.exit 0,e',h)∧look e' 3=I m'∧look e' 4=I b'∧0≤m'∧m'≤F2 q s∧(m'=0→F2 q s=0)∧(m'=1→b'=F2 q s)
 | [], p, m, b, s, hp, h1, h2, h3, h4, h5 => by
   have ln:=rd.len
   rw[pt]at ln
   refine⟨[(0,x),(3,I m),(4,I b),(5,I p.length),(9,.bool false)],m,b,sY ?_,rfl,rfl,h1,h3,h4,h5⟩
   have c1:¬(p.length:Int)<(l.length:Int):=by rw[hp];simp
   simp only[I]at *
   simp only[AP.f54L0,go_sem,ln,UQ c1]
 | y :: q, p, m, b, s, hp, h1, h2, h3, h4, h5 => by
   have ln:=rd.len
   rw[pt]at ln
   have hlen:l.length=p.length+(q.length+1):=by rw[hp];simp
   have c1:(p.length:Int)<(l.length:Int):=by omega
   have hv:(ints l)[p.length]?=some (I y):=sG (by rw[hp];simp)
   have hy:=hr y (by rw[hp];simp)
   obtain⟨ad,p1,p2⟩:=rd.elem hv
   have p3:=p2 h (fun _ _ q=>q)
   have w1:IntKind.wrap .i64 ((p.length:Int)+1)=(((p++[y]).length:Nat):Int):=by
    rw[uZ];exact u5 (n:=p.length+1) (by omega)
   by_cases d1:0<y
   · have w2:IntKind.wrap .i64 (m+1)=m+1:=tx (by omega) (by omega)
     have step:aK (aQ AP.A) bz AP.f54L0 (ax [(0,x),(3,I m),(4,I b),(5,I p.length)] [0,3,4,5]) h=some (.normal,[(0,x),(3,I (m+1)),(4,I y),(5,I (p++[y]).length)],h):=by
      generalize hB:(p++[y]).length=B at *
      simp only[I]at *
      simp only[AP.f54L0,go_sem,ln,US c1,p1,p3,US d1,w2,w1]
     obtain⟨e',m',b',r1,r2⟩:=zB hl hr h rd q (p++[y]) (m+1) y (s+y) (by rw[hp];simp) (by omega) (by simp;omega) (by omega) (by omega) (by intro e;have:=h4 (by omega);omega)
     exact⟨e',m',b',sZ step r1,r2⟩
   · have hy0:y=0:=by omega
     have step:aK (aQ AP.A) bz AP.f54L0 (ax [(0,x),(3,I m),(4,I b),(5,I p.length)] [0,3,4,5]) h=some (.normal,[(0,x),(3,I m),(4,I b),(5,I (p++[y]).length)],h):=by
      generalize hB:(p++[y]).length=B at *
      simp only[I]at *
      simp only[AP.f54L0,go_sem,ln,US c1,p1,p3,UQ d1,w1]
     obtain⟨e',m',b',r1,r2⟩:=zB hl hr h rd q (p++[y]) m b (s+y) (by rw[hp];simp) h1 (by simp;omega) (by omega) (by intro e;have:=h4 e;omega) (by intro e;have:=h5 e;omega)
     exact⟨e',m',b',sZ step r1,r2⟩
theorem Jo (h:H) (x:AV) (l:List Int) (hl:l.length<100000) (hr:xx l) (rd:Rd h x (ints l)):aQ AP.A 54 [x] h=some (.bool (wJ l),h):=by
 obtain⟨e',m',b',r1,r2,r3,r4,r5,r6,r7⟩:=zB hl hr h.dX (rd.mono (vv h)) l [] 0 0 0 rfl (by omega) (by simp) (by omega) (by intro _;rfl) (by omega)
 have r1':Lp AP.A [0,3,4,5] AP.f54L0 [(0,x),(3,I 0),(4,I 0),(5,I 0)] h.dX=some (.exit 0,e',h.dX):=r1
 clear r1
 refine tM (fn:=AP.f54) (h2:=h.dX) (e:=[(2,.bool (wJ l))]) rfl rfl rfl ?_ rfl rfl
 unfold wJ
 generalize F2 l 0=s at *
 by_cases c0:m'=0
 · have d0:=tU c0
   have hs:s≤1:=by have:=r6 c0;omega
   rw[US hs]
   simp only[I]at *
   simp only[AP.f54,go_sem,rR,r1',r2,r3,d0]
 have d0:=tT c0
 by_cases c1:m'=1
 · have d1:=tU c1
   have hb:=r7 c1
   by_cases c2:b'=1
   · have d2:=tU c2
     rw[US (show s≤1 by omega)]
     simp only[I]at *
     simp only[AP.f54,go_sem,rR,r1',r2,r3,d0,d1,d2]
   · have d2:=tT c2
     rw[UQ (show¬s≤1 by omega)]
     simp only[I]at *
     simp only[AP.f54,go_sem,rR,r1',r2,r3,d0,d1,d2]
 · have d1:=tT c1
   rw[UQ (show¬s≤1 by omega)]
   simp only[I]at *
   simp only[AP.f54,go_sem,rR,r1',r2,r3,d0,d1]
theorem CF {c:FC} {S:SS} {h:H} {ov:AV} (st:Ft c S h ov) (b:AV) (many times n:Int) (v:AV) (i:Int) (hs:times≤i∨(i<times∧S.e≠0)):
 ∃e',Lp AP.A [0,1,2,7,9,10,11] AP.f53L0 [(0,.aC c.f 0),(1,b),(2,I many),(7,v),(9,I times),(10,I n),(11,I i)] h=some (.exit 3,e',h)∧look e' 0=.aC c.f 0∧look e' 1=b∧look e' 2=I many∧look e' 7=v:=by
 have gf:=st.gf
 refine⟨[(0,.aC c.f 0),(1,b),(2,I many),(7,v),(9,I times),(10,I n),(11,I i),(83,.bool false)],sY ?_,rfl,rfl,rfl,rfl⟩
 rcases hs with hn|⟨hn,he⟩
 · have c1:¬i<times:=by omega
   simp only[I]at *
   simp only[AP.f53L0,go_sem,UQ c1]
 · have c2:=tT he
   simp only[I]at *
   simp only[AP.f53L0,go_sem,US hn,gf,c2]
theorem Fh {c:FC} (h0:H) {S:SS} {ov:AV} (he:S.e=0) (b:AV) (many:Int) (n:Int) (times:Nat) (ht:times≤1000):∀(m i:Nat) (acc:List Int) (h:H) (v:AV),i+m=times→Ft c S h ov→FF c h0 ov h ov→mX h v (ints acc)→acc.length<100000+i→(∀j,v.id?=some j→h0.next≤j)→(∀j,(j=c.f∨ov.id?=some j)→j<h0.next)→
 ∃e' h' v',Lp AP.A [0,1,2,7,9,10,11] AP.f53L0 [(0,.aC c.f 0),(1,b),(2,I many),(7,v),(9,I times),(10,I n),(11,I i)] h=some (.exit 3,e',h')∧look e' 0=.aC c.f 0∧look e' 1=b∧look e' 2=I many∧look e' 7=v'∧Ft c S h' ov∧FF c h0 ov h' ov∧mX h' v' (ints (acc++List.replicate m n))∧∀j,v'.id?=some j→h0.next≤j
 | 0, i, acc, h, v, hm, st, fr, o, hal, hid, hlo => by
   obtain⟨e',q1,q2,q3,q4,q5⟩:=CF st b many times n v i (.inl (by omega))
   exact⟨e',h,v,q1,q2,q3,q4,q5,st,fr,by simpa using o,hid⟩
 | m + 1, i, acc, h, v, hm, st, fr, o, hal, hid, hlo => by
   have gf:=st.gf
   rw[he]at gf
   have c1:(i:Int)<times:=by omega
   have w1:IntKind.wrap .i64 ((i:Int)+1)=((i+1:Nat):Int):=u5 (n:=i+1) (by omega)
   obtain⟨g,hg⟩:∃g,g=h.alloc [I n]:=⟨_,rfl⟩
   have al:=st.alloc [I n]
   rw[←hg]at al
   have og:mX g v (ints acc):=o.mono (by rw[hg];simp) fun j hj=>by have:=o.lt hj;rw[hg,H.aV,if_neg (by omega)]
   have hgf:=al.1.nx
   obtain⟨v',h2,r1,r2,r3,r4,r5,r6⟩:=og.app hgf (z:=8) (I n) rfl (by simp [roomy];omega)
   have src:aR g 1 (.aD h.next 0 1 1)=some (1,[I n]):=by simp [aR,hg,H.aV]
   have ap:kD g 1 8 v (.aD h.next 0 1 1)=some (v',h2):=by unfold kD;rw[src,uC];exact r1
   have bt:∀e:Env,look e 87=.int .i64 n→aX e (.cR 1 1 [.int .i64 0] [(0,.t 87)])=some ([.int .i64 n],fun i=>.aD i 0 1 1):=by
    intro e q;simp only[aX,U5,Vf,rU,q];rfl
   have step:aK (aQ AP.A) bz AP.f53L0 (ax [(0,.aC c.f 0),(1,b),(2,I many),(7,v),(9,I times),(10,I n),(11,I i)] [0,1,2,7,9,10,11]) h=some (.normal,[(0,.aC c.f 0),(1,b),(2,I many),(7,v'),(9,I times),(10,I n),(11,I (i+1:Nat))],h2):=by
    simp only[I]at *
    simp only[AP.f53L0,go_sem,US c1,gf]
    rw[bt _ rfl]
    simp only[go_sem,←hg,ap,w1]
   have frg:=fr.trans al.2
   have st2:Ft c S h2 ov:=al.1.wN r3 r4 fun j hj=>r5 j (fun e=>by have:=hid j e;have:=hlo j hj;omega) (by have:=hlo j hj;have:=frg.nx;omega)
   have fr2:FF c h0 ov h2 ov:=⟨r3.trans frg.fl,uX frg.nx r4,fun id i1 i2 i4=>by rw[r5 id (fun e=>by have:=hid id e;omega) (by have:=frg.nx;omega)];exact frg.Bt id i1 i2 i4,fun j hj=>.inl hj⟩
   have hr:ints acc++[I n]=ints (acc++[n]):=by rw[pq];rfl
   rw[hr]at r2
   obtain⟨e',h',v2,s1,s2,s3,s4,s5,s6,s7,s8,s9⟩:=Fh h0 he b many n times ht m (i+1) (acc++[n]) h2 v' (by omega) st2 fr2 r2 (by simp;omega) (fun j hj=>by rw[r6]at hj;cases hj;exact frg.nx) hlo
   refine⟨e',h',v2,sZ step s1,s2,s3,s4,s5,s6,s7, ?_,s9⟩
   rw[List.replicate_succ,show acc++n::List.replicate m n=acc++[n]++List.replicate m n by simp]
   exact s8
theorem zY {c:FC} {S:SS} {h:H} {ov:AV} (st:Ft c S h ov) (b:AV) (many:Nat) {v:AV} {acc:List Int} (o:mX h v (ints acc)) (hs:many≤acc.length∨(acc.length<many∧S.e≠0)):
 ∃e',Lp AP.A [0,1,2,7] AP.f53L1 [(0,.aC c.f 0),(1,b),(2,I many),(7,v)] h=some (.exit 0,e',h)∧look e' 7=v:=by
 have gf:=st.gf
 have ln:=o.len
 rw[pt]at ln
 refine⟨[(0,.aC c.f 0),(1,b),(2,I many),(7,v),(22,.bool false)],sY ?_,rfl⟩
 rcases hs with hs|⟨hs,he⟩
 · have c1:¬(acc.length:Int)<many:=by omega
   simp only[I]at *
   simp only[AP.f53L1,go_sem,ln,UQ c1]
 · have c1:(acc.length:Int)<many:=by omega
   have c2:=tT he
   simp only[I]at *
   simp only[AP.f53L1,go_sem,ln,US c1,gf,c2]
theorem FR {c : FC} {S2 : SS} {h2 : H} {ov : AV} (h0 : H) (cl : List Int) (many : Nat) (hm : many ≤ 400) {v : AV} {acc : List Int} (st : Ft c S2 h2 ov) (fr : FF c h0 ov h2 ov) (o : mX h2 v (ints acc)) (hal : acc.length < many) (hid : ∀ j, v.id? = some j → h0.next ≤ j) (hlo : ∀ j, (j = c.f ∨ ov.id? = some j) → j < h0.next) (n : Int) (times : Nat) (ht : times ≤ 1000) (he2 : S2.e = 0 ∨ S2.e = 700) (code : aF)
 (hcode:code=(.seq (.seq (.oI [⟨(some 59),.mv (.t 0),none⟩,⟨(some 60),.nR (.t 59),none⟩,⟨(some 61),.nI 4 (.t 60),none⟩,⟨(some 62),.load false 1 (.t 61),none⟩,⟨(some 63),.bin .eql (.t 62) (.c (.int .i64 0)),none⟩,⟨(some 64),.mv (.t 63),none⟩,⟨(some 65),.mv (.t 7),(some (64,true))⟩,⟨(some 66),.len false (.t 65),(some (64,true))⟩,⟨(some 67),.mv (.t 9),(some (64,true))⟩,⟨(some 68),.bin .add (.t 66) (.t 67),(some (64,true))⟩,⟨(some 69),.mv (.t 2),(some (64,true))⟩,⟨(some 70),.bin .gtr (.t 68) (.t 69),(some (64,true))⟩,⟨(some 71),.pick (.t 64) (.t 70) (.c (.bool false)),none⟩] [0,1,2,7,9,10,71]) (.cond (.t 71) (.oI [⟨(some 72),.mv (.t 0),none⟩,⟨(some 73),.call (.c (.fn 25 [] [])) [(.t 72)],none⟩] [0,1,2,7,9,10]) (.skip) [0,1,2,7,9,10])) (.seq (.oI [⟨(some 11),.mv (.c (.int .i64 0)),none⟩] [0,1,2,7,9,10,11]) (.block 3 (.loop [0,1,2,7,9,10,11] AP.f53L0) [0,1,2,7])))):
 ∃ h3 S3 v3, aK (aQ AP.A) bz code [(0, .aC c.f 0), (1, vu cl), (2, I many), (7, v), (9, I times), (10, I n)] h2 = some (.normal, [(0, .aC c.f 0), (1, vu cl), (2, I many), (7, v3)], h3) ∧ Ft c S3 h3 ov ∧ FF c h0 ov h3 ov ∧
   ((S2.e=0∧acc.length+times≤many∧S3=S2∧mX h3 v3 (ints (acc++List.replicate times n))∧∀j,v3.id?=some j→h0.next≤j)∨((S2.e≠0∨many<acc.length+times)∧S3.e=700∧v3=v∧mX h3 v (ints acc))):=by
 have gf:=st.gf
 have ln:=o.len
 rw[pt]at ln
 subst hcode
 have w1:IntKind.wrap .i64 ((acc.length:Int)+times)=((acc.length+times:Nat):Int):=by rw[show(acc.length:Int)+times=((acc.length+times:Nat):Int)by omega];exact u5 (by omega)
 by_cases he:S2.e=0
 · have ce:=tU he
   by_cases hgt:many<acc.length+times
   · have d1:(many:Int)<((acc.length+times:Nat):Int):=by omega
     obtain⟨h3,f1,f2,f3⟩:=xN st
     have he3:(vo 700 S2).e=700:=by simp [vo,he]
     have hs:(times:Int)≤0∨((0:Int)<times∧(vo 700 S2).e≠0):=by
      by_cases q:0<times
      · exact .inr ⟨by omega,by rw[he3];decide⟩
      · exact .inl (by omega)
     obtain⟨e',q1,q2,q3,q4,q5⟩:=CF f2 (vu cl) many times n v 0 hs
     have o3:mX h3 v (ints acc):=o.mono f3.fl fun j hj=>f3.Bt j (o.lt hj) (fun e=>by have:=hid j hj;have:=hlo j (.inl e);omega) (fun e=>by have:=hid j hj;have:=hlo j (.inr e);omega)
     refine⟨h3,vo 700 S2,v, ?_,f2,fr.trans f3,.inr ⟨.inr hgt,he3,rfl,o3⟩⟩
     simp only[I]at *
     simp only[go_sem,gf,ce,ln,w1,US d1,f1,rR,q1,q2,q3,q4,q5]
   · have d1:¬(many:Int)<((acc.length+times:Nat):Int):=by omega
     obtain⟨e',h3,v3,q1,q2,q3,q4,q5,q6,q7,q8,q9⟩:=Fh h0 he (vu cl) many n times ht times 0 acc h2 v (by omega) st fr o (by omega) hid hlo
     have q1':Lp AP.A [0,1,2,7,9,10,11] AP.f53L0 [(0,.aC c.f 0),(1,vu cl),(2,I many),(7,v),(9,I times),(10,I n),(11,I 0)] h2=some (.exit 3,e',h3):=q1
     clear q1
     refine⟨h3,S2,v3, ?_,q6,q7,.inl ⟨he,by omega,rfl,q8,q9⟩⟩
     simp only[I]at *
     simp only[go_sem,gf,ce,ln,w1,UQ d1,rR,q1',q2,q3,q4,q5]
 · have ce:=tT he
   have he3:S2.e=700:=by rcases he2 with q|q;exact absurd q he;exact q
   have hs:(times:Int)≤0∨((0:Int)<times∧S2.e≠0):=by
    by_cases q:0<times
    · exact .inr ⟨by omega,he⟩
    · exact .inl (by omega)
   obtain⟨e',q1,q2,q3,q4,q5⟩:=CF st (vu cl) many times n v 0 hs
   refine⟨h2,S2,v, ?_,st,fr,.inr ⟨.inl he,he3,rfl,o⟩⟩
   simp only[I]at *
   simp only[go_sem,gf,ce,ln,w1,rR,q1,q2,q3,q4,q5]
theorem Cd {c : FC} (h0 : H) (cl : List Int) (hcl : cl.length < 1000) (many : Nat) (hm : many ≤ 400) : ∀ (f : Nat) (acc : List Int) (S : SS) (h : H) (ov v : AV), Ft c S h ov → S.e = 0 → 8 * c.text.size < S.at_ + f → FF c h0 ov h ov → mX h v (ints acc) → acc.length ≤ many → (∀ j, v.id? = some j → h0.next ≤ j) → (∀ j, (j = c.f ∨ ov.id? = some j) → j < h0.next) →
 ∃ h' S', Ft c S' h' ov ∧ FF c h0 ov h' ov ∧ match vT c.text cl many f acc S.at_ with
   |some (L,p)=>S'={S with at_:=p}∧L.length=many∧∃e' v',Lp AP.A [0,1,2,7] AP.f53L1 [(0,.aC c.f 0),(1,vu cl),(2,I many),(7,v)] h=some (.exit 0,e',h')∧look e' 7=v'∧mX h' v' (ints L)∧∀j,v'.id?=some j→h0.next≤j
   |none=>S'.e=700∧((∃e' v',Lp AP.A [0,1,2,7] AP.f53L1 [(0,.aC c.f 0),(1,vu cl),(2,I many),(7,v)] h=some (.exit 0,e',h')∧look e' 7=v')∨∃e',Lp AP.A [0,1,2,7] AP.f53L1 [(0,.aC c.f 0),(1,vu cl),(2,I many),(7,v)] h=some (.ret,e',h')∧look e' 6=.aO)
 |0,acc,S,h,ov,v,st,he,hk,fr,oa,hal,hid,hlo=>by have:=st.wP;omega
 | f + 1, acc, S, h, ov, v, st, he, hk, fr, oa, hal, hid, hlo => by
   by_cases hlt:acc.length<many
   · rw [vT, if_pos hlt]
     have gf:=st.gf
     rw[he]at gf
     have ln:=oa.len
     rw[pt]at ln
     have c1:(acc.length:Int)<many:=by omega
     obtain⟨h1,S1,y,s1,s2,s3,s4⟩:=AY cl hcl st he
     have gf1:=s2.gf
     cases hz:xQ c.text cl 15 1 0 S.at_ with
     | none =>
       rw[hz]at s4
       obtain⟨s4,s5⟩:=s4
       have ce:(S1.e !=0)=true:=tW (by rw[s4];decide)
       refine⟨h1,S1,s2,fr.trans s3,s4,.inr ⟨[(6,.aO)],tC ?_,rfl⟩⟩
       simp only[I]at *
       simp only[AP.f53L1,go_sem,ln,US c1,gf,s1,gf1,ce]
     | some yp =>
       obtain⟨z,p1⟩:=yp
       rw[hz]at s4
       obtain⟨s4,s5⟩:=s4
       subst s5 s4
       have zb:=xK hz
       dsimp only at gf1 ⊢
       rw[he]at gf1
       have fr1:=fr.trans s3
       have hneq:∀i,v.id?=some i→i≠c.f∧ov.id?≠some i:=fun i hi=>by
        have:=hid i hi
        exact⟨fun e=>by have:=hlo i (.inl e);omega,fun e=>by have:=hlo i (.inr e);omega⟩
       have oa1:mX h1 v (ints acc):=oa.mono s3.fl fun i hi=>s3.Bt i (oa.lt hi) (hneq i hi).1 (hneq i hi).2
       have ln1:=oa1.len
       rw[pt]at ln1
       have fin:∀(n:Int) (times:Nat) (h2:H) (S2:SS),times≤1000→Ft c S2 h2 ov→FF c h0 ov h2 ov→mX h2 v (ints acc)→(S2.e=0∨S2.e=700)→(∀code h3 v3,code=(aF.seq (.seq (.oI [⟨(some 59),.mv (.t 0),none⟩,⟨(some 60),.nR (.t 59),none⟩,⟨(some 61),.nI 4 (.t 60),none⟩,⟨(some 62),.load false 1 (.t 61),none⟩,⟨(some 63),.bin .eql (.t 62) (.c (.int .i64 0)),none⟩,⟨(some 64),.mv (.t 63),none⟩,⟨(some 65),.mv (.t 7),(some (64,true))⟩,⟨(some 66),.len false (.t 65),(some (64,true))⟩,⟨(some 67),.mv (.t 9),(some (64,true))⟩,⟨(some 68),.bin .add (.t 66) (.t 67),(some (64,true))⟩,⟨(some 69),.mv (.t 2),(some (64,true))⟩,⟨(some 70),.bin .gtr (.t 68) (.t 69),(some (64,true))⟩,⟨(some 71),.pick (.t 64) (.t 70) (.c (.bool false)),none⟩] [0,1,2,7,9,10,71]) (.cond (.t 71) (.oI [⟨(some 72),.mv (.t 0),none⟩,⟨(some 73),.call (.c (.fn 25 [] [])) [(.t 72)],none⟩] [0,1,2,7,9,10]) (.skip) [0,1,2,7,9,10])) (.seq (.oI [⟨(some 11),.mv (.c (.int .i64 0)),none⟩] [0,1,2,7,9,10,11]) (.block 3 (.loop [0,1,2,7,9,10,11] AP.f53L0) [0,1,2,7])))→aK (aQ AP.A) bz code [(0,.aC c.f 0),(1,vu cl),(2,I many),(7,v),(9,I times),(10,I n)] h2=some (.normal,[(0,.aC c.f 0),(1,vu cl),(2,I many),(7,v3)],h3)→
        aK (aQ AP.A) bz AP.f53L1 (ax [(0,.aC c.f 0),(1,vu cl),(2,I many),(7,v)] [0,1,2,7]) h=some (.normal,[(0,.aC c.f 0),(1,vu cl),(2,I many),(7,v3)],h3))→
        (match wh c.text y acc p1 with|some q=>S2={S with at_:=q.2.2}∧n=q.1∧times=q.2.1∧p1≤q.2.2|none=>S2.e=700)→
        ∃ h' S', Ft c S' h' ov ∧ FF c h0 ov h' ov ∧ match (match wh c.text y acc p1 with | none => none | some (n, times, p2) => vT c.text cl many f (acc ++ List.replicate times n) p2) with
          |some (L,p)=>S'={S with at_:=p}∧L.length=many∧∃e' v',Lp AP.A [0,1,2,7] AP.f53L1 [(0,.aC c.f 0),(1,vu cl),(2,I many),(7,v)] h=some (.exit 0,e',h')∧look e' 7=v'∧mX h' v' (ints L)∧∀j,v'.id?=some j→h0.next≤j
          |none=>S'.e=700∧((∃e' v',Lp AP.A [0,1,2,7] AP.f53L1 [(0,.aC c.f 0),(1,vu cl),(2,I many),(7,v)] h=some (.exit 0,e',h')∧look e' 7=v')∨∃e',Lp AP.A [0,1,2,7] AP.f53L1 [(0,.aC c.f 0),(1,vu cl),(2,I many),(7,v)] h=some (.ret,e',h')∧look e' 6=.aO):=by
        intro n times h2 S2 ht st2 fr2 o2 he2 hstep hag
        obtain⟨h3,S3,v3,t1,t2,t3,t4⟩:=FR h0 cl many hm st2 fr2 o2 hlt hid hlo n times ht he2 _ rfl
        have step:=hstep _ h3 v3 rfl t1
        cases ha:wh c.text y acc p1 with
        | none =>
          rw[ha]at hag
          dsimp only at hag ⊢
          rcases t4 with ⟨t5,_⟩|⟨_,t6,t7,t8⟩
          · rw[hag]at t5;exact absurd t5 (by decide)
          · subst t7
            obtain⟨e',q1,q2⟩:=zY t2 (vu cl) many t8 (.inr ⟨hlt,by rw[t6];decide⟩)
            exact⟨h3,S3,t2,t3,t6,.inl ⟨e',v3,sZ step q1,q2⟩⟩
        | some q =>
          obtain⟨n2,t2',p2⟩:=q
          rw[ha]at hag
          obtain⟨g1,g2,g3,g4⟩:=hag
          dsimp only at g1 g2 g3 g4 ⊢
          subst g1 g2 g3
          have hle2:=st2.wP
          dsimp only at hle2
          rcases t4 with ⟨t5,t6,t7,t8,t9⟩|⟨t5,t6,t7,t8⟩
          · subst t7
            obtain⟨h',S',r1,r2,r3⟩:=Cd h0 cl hcl many hm f (acc++List.replicate times n) _ h3 ov v3 t2 he (by dsimp only;omega) t3 t8 (by simp;omega) t9 hlo
            refine⟨h',S',r1,r2, ?_⟩
            dsimp only at r3
            cases hL:vT c.text cl many f (acc++List.replicate times n) p2 with
            | some q =>
              rw[hL]at r3
              obtain⟨r4,r5,e',v',r6,r7⟩:=r3
              exact⟨r4,r5,e',v',sZ step r6,r7⟩
            | none =>
              rw[hL]at r3
              obtain⟨r4,r5⟩:=r3
              refine⟨r4, ?_⟩
              rcases r5 with ⟨e',v',r6,r7⟩|⟨e',r6,r7⟩
              · exact .inl ⟨e',v',sZ step r6,r7⟩
              · exact .inr ⟨e',sZ step r6,r7⟩
          · have hgt:many<acc.length+times:=by
             rcases t5 with q|q
             · exact absurd he q
             · exact q
            have hnone:vT c.text cl many f (acc++List.replicate times n) p2=none:=by
             obtain⟨f',rfl⟩:∃f',f=f'+1:=⟨f-1,by omega⟩
             rw[vT,if_neg (by simp;omega),if_pos (by simp;omega)]
            rw[hnone]
            dsimp only
            subst t7
            obtain⟨e',q1,q2⟩:=zY t2 (vu cl) many t8 (.inr ⟨hlt,by rw[t6];decide⟩)
            exact⟨h3,S3,t2,t3,t6,.inl ⟨e',v3,sZ step q1,q2⟩⟩
       have ne0:((0:Int) !=0)=false:=rfl
       by_cases h16:y=16
       · have d16:=tU h16
         by_cases hn:acc=[]
         · obtain⟨h2,f1,f2,f3⟩:=xN s2
           have hag:wh c.text y acc p1=none:=by unfold wh;rw[if_pos h16,if_pos hn]
           rw[hag]
           have hz0:((acc.length:Int)==0)=true:=by rw[hn];rfl
           refine⟨h2,_,f2,fr1.trans f3,by simp [vo,he],.inr ⟨[(6,.aO)],tC ?_,rfl⟩⟩
           simp only[I]at *
           simp only[AP.f53L1,go_sem,ln,US c1,gf,s1,gf1,ne0,d16,ln1,hz0,f1]
         · have hpos:0<acc.length:=List.length_pos_iff.2 hn
           have hz0:((acc.length:Int)==0)=false:=tT (by omega)
           have w2:IntKind.wrap .i64 ((acc.length:Int)-1)=((acc.length-1:Nat):Int):=by
            rw[show(acc.length:Int)-1=((acc.length-1:Nat):Int)by omega];exact u5 (by omega)
           have hel:=zK (l:=acc) (i:=acc.length-1) (by omega)
           obtain⟨id,i1,i2,i3⟩:=oa1.elem hel
           obtain⟨h2,k1,k2,k3⟩:=xw s2 2 2 rfl (by omega)
           have hgl:(vE c 2 {S with at_:=p1}).1<4:=by
            unfold vE;split
            · simpa using vU c.text p1 2
            · simp
           have w3:IntKind.wrap .i64 (3+((vE c 2 {S with at_:=p1}).1:Int))=((3+(vE c 2 {S with at_:=p1}).1:Nat):Int):=u5 (n:=3+_) (by omega)
           have o2:mX h2 v (ints acc):=oa1.mono k3.fl fun i hi=>k3.Bt i (oa1.lt hi) (hneq i hi).1 (hneq i hi).2
           refine fin (acc.getD (acc.length-1) 0) (3+(vE c 2 {S with at_:=p1}).1) h2 _ (by omega) k2 (fr1.trans k3) o2 (AZ c 2 _ (.inl he)) ?_ ?_
           · intro code h3 v3 hc hev
             clear fin i1
             generalize (vE c 2 {S with at_:=p1}).1=G at *
             unfold AP.f53L1
             rw[hc]at hev
             simp only[I]at *
             simp only[rF,mZ,pH,su,go_sem,ln,US c1,gf,s1,gf1,ne0,d16,ln1,hz0,w2,i2,i3,hel,k1,w3]
             simp only[rF,mZ,pH,su,go_sem]at hev
             simp only[hev,go_sem]
           · by_cases hp:p1+2≤8* c.text.size
             · have hag:wh c.text y acc p1=some (acc.getD (acc.length-1) 0,3+vi c.text p1 2,p1+2):=by unfold wh;rw[if_pos h16,if_neg hn,if_pos hp]
               rw[hag]
               have eg:vE c 2 {S with at_:=p1}=(vi c.text p1 2,{S with at_:=p1+2}):=by rw[vE,if_pos hp]
               rw[eg]
               exact⟨rfl,rfl,rfl,by show p1≤p1+2;omega⟩
             · have hag:wh c.text y acc p1=none:=by unfold wh;rw[if_pos h16,if_neg hn,if_neg hp]
               rw[hag]
               have eg:vE c 2 {S with at_:=p1}=(0,{S with at_:=p1,e:=700}):=by rw[vE,if_neg hp,vo,if_pos he]
               rw[eg]
       · have d16:=tT h16
         by_cases h17:y=17
         · have d17:=tU h17
           obtain⟨h2,k1,k2,k3⟩:=xw s2 3 3 rfl (by omega)
           have hgl:(vE c 3 {S with at_:=p1}).1<8:=by
            unfold vE;split
            · simpa using vU c.text p1 3
            · simp
           have w3:IntKind.wrap .i64 (3+((vE c 3 {S with at_:=p1}).1:Int))=((3+(vE c 3 {S with at_:=p1}).1:Nat):Int):=u5 (n:=3+_) (by omega)
           have o2:mX h2 v (ints acc):=oa1.mono k3.fl fun i hi=>k3.Bt i (oa1.lt hi) (hneq i hi).1 (hneq i hi).2
           refine fin 0 (3+(vE c 3 {S with at_:=p1}).1) h2 _ (by omega) k2 (fr1.trans k3) o2 (AZ c 3 _ (.inl he)) ?_ ?_
           · intro code h3 v3 hc hev
             clear fin
             generalize (vE c 3 {S with at_:=p1}).1=G at *
             unfold AP.f53L1
             rw[hc]at hev
             simp only[I]at *
             simp only[rF,mZ,pH,su,go_sem,ln,US c1,gf,s1,gf1,ne0,d16,d17,k1,w3]
             simp only[rF,mZ,pH,su,go_sem]at hev
             simp only[hev,go_sem]
           · by_cases hp:p1+3≤8* c.text.size
             · have hag:wh c.text y acc p1=some (0,3+vi c.text p1 3,p1+3):=by unfold wh;rw[if_neg h16,if_pos h17,if_pos hp]
               rw[hag]
               have eg:vE c 3 {S with at_:=p1}=(vi c.text p1 3,{S with at_:=p1+3}):=by rw[vE,if_pos hp]
               rw[eg]
               exact⟨rfl,rfl,rfl,by show p1≤p1+3;omega⟩
             · have hag:wh c.text y acc p1=none:=by unfold wh;rw[if_neg h16,if_pos h17,if_neg hp]
               rw[hag]
               have eg:vE c 3 {S with at_:=p1}=(0,{S with at_:=p1,e:=700}):=by rw[vE,if_neg hp,vo,if_pos he]
               rw[eg]
         · have d17:=tT h17
           by_cases h18:y=18
           · have d18:=tU h18
             obtain⟨h2,k1,k2,k3⟩:=xw s2 7 7 rfl (by omega)
             have hgl:(vE c 7 {S with at_:=p1}).1<128:=by
              unfold vE;split
              · simpa using vU c.text p1 7
              · simp
             have w3:IntKind.wrap .i64 (11+((vE c 7 {S with at_:=p1}).1:Int))=((11+(vE c 7 {S with at_:=p1}).1:Nat):Int):=u5 (n:=11+_) (by omega)
             have o2:mX h2 v (ints acc):=oa1.mono k3.fl fun i hi=>k3.Bt i (oa1.lt hi) (hneq i hi).1 (hneq i hi).2
             refine fin 0 (11+(vE c 7 {S with at_:=p1}).1) h2 _ (by omega) k2 (fr1.trans k3) o2 (AZ c 7 _ (.inl he)) ?_ ?_
             · intro code h3 v3 hc hev
               clear fin
               generalize (vE c 7 {S with at_:=p1}).1=G at *
               unfold AP.f53L1
               rw[hc]at hev
               simp only[I]at *
               simp only[rF,mZ,pH,su,go_sem,ln,US c1,gf,s1,gf1,ne0,d16,d17,d18,k1,w3]
               simp only[rF,mZ,pH,su,go_sem]at hev
               simp only[hev,go_sem]
             · by_cases hp:p1+7≤8* c.text.size
               · have hag:wh c.text y acc p1=some (0,11+vi c.text p1 7,p1+7):=by unfold wh;rw[if_neg h16,if_neg h17,if_pos h18,if_pos hp]
                 rw[hag]
                 have eg:vE c 7 {S with at_:=p1}=(vi c.text p1 7,{S with at_:=p1+7}):=by rw[vE,if_pos hp]
                 rw[eg]
                 exact⟨rfl,rfl,rfl,by show p1≤p1+7;omega⟩
               · have hag:wh c.text y acc p1=none:=by unfold wh;rw[if_neg h16,if_neg h17,if_pos h18,if_neg hp]
                 rw[hag]
                 have eg:vE c 7 {S with at_:=p1}=(0,{S with at_:=p1,e:=700}):=by rw[vE,if_neg hp,vo,if_pos he]
                 rw[eg]
           · have d18:=tT h18
             have hag:wh c.text y acc p1=some (y,1,p1):=by unfold wh;rw[if_neg h16,if_neg h17,if_neg h18]
             refine fin y 1 h1 _ (by omega) s2 fr1 oa1 (.inl he) ?_ (by rw[hag];exact⟨rfl,rfl,rfl,uF _⟩)
             intro code h3 v3 hc hev
             clear fin hag
             unfold AP.f53L1
             rw[hc]at hev
             have hev':aK (aQ AP.A) bz _ [(0,.aC c.f 0),(1,vu cl),(2,I many),(7,v),(9,I 1),(10,I y)] h1=_:=hev
             clear hev
             simp only[I]at *
             simp only[rF,mZ,pH,su,go_sem,ln,US c1,gf,s1,gf1,ne0,d16,d17,d18]
             simp only[rF,mZ,pH,su,go_sem,ln,US c1,gf,s1,gf1,ne0,d16,d17,d18]at hev'
             simp only[hev',go_sem]
   · have heq:acc.length=many:=by omega
     obtain⟨e',q1,q2⟩:=zY st (vu cl) many oa (.inl (by omega))
     refine⟨h,S,st,fr, ?_⟩
     rw[vT,if_neg hlt,if_neg (by omega)]
     exact⟨rfl,heq,e',v,q1,q2,oa,hid⟩
def Er (c:FC):SC:=⟨0,0,c.text,c.most⟩
theorem J9 (c:FC) (n:Nat) (S:SS):vE c n S=vm (Er c) n S:=(J8 (Er c) c rfl n S).symm
theorem Dh {c : FC} (a : Nat) (many : Nat) (hmany : many ≤ 19) (m2 m3 : AV) : ∀ (q p o : List Int) (S : SS) (h : H) (ov : AV), vH.take many = p ++ q → Ft c S h ov → ov.id? ≠ some a → a ≠ c.f → h.get a = some (ints o) → o.length = 19 → h.floor ≤ a →
 ∃ e' h', Lp AP.A [0, 2, 3, 4, 5, 6, 7] AP.f24L0 [(0, .aC c.f 0), (2, m2), (3, m3), (4, I many), (5, .aD a 0 19 1), (6, wk vH), (7, I p.length)] h = some (.exit 0, e', h') ∧ look e' 0 = .aC c.f 0 ∧ look e' 2 = m2 ∧ look e' 3 = m3 ∧ look e' 5 = .aD a 0 19 1 ∧
   Ft c (ye (Er c) q o S).2 h' ov∧h'.get a=some (ints (ye (Er c) q o S).1)∧h'.floor=h.floor∧h.next≤h'.next∧∀i,i<h.next→i≠c.f→ov.id?≠some i→i≠a→h'.get i=h.get i
 | [], p, o, S, h, ov, hp, st, hoa, hac, hg, ho, hf => by
   have hlen:p.length=many:=by
    have:=Vi List.length hp
    rw[List.length_take,UX]at this
    have h2:vH.length=19:=rfl
    omega
   refine⟨[(0,.aC c.f 0),(2,m2),(3,m3),(4,I many),(5,.aD a 0 19 1),(6,wk vH),(7,I p.length),(37,.bool false)],h,sY ?_,rfl,rfl,rfl,rfl,st,hg,rfl,uF _,fun _ _ _ _ _=>rfl⟩
   have c1:¬(p.length:Int)<(many:Int):=by omega
   simp only[I]at *
   simp only[AP.f24L0,go_sem,UQ c1]
 | s :: q, p, o, S, h, ov, hp, st, hoa, hac, hg, ho, hf => by
   have h2l:vH.length=19:=rfl
   have hlen:p.length+(q.length+1)=many:=by
    have:=Vi List.length hp
    rw[List.length_take,uZ,UR]at this
    omega
   have c1:(p.length:Int)<(many:Int):=by omega
   have hsm:s∈vH:=List.mem_of_mem_take (i:=many) (by rw[hp];simp)
   have hs:=DA s hsm
   obtain⟨sn,hsn⟩:∃n:Nat,s=n:=U9 hs.1
   subst hsn
   have hv0:vH[p.length]?=some (sn:Int):=by
    have:(vH.take many)[p.length]?=some (sn:Int):=by rw[hp];simp
    rw[uY]at this
    split at this
    · exact this
    · cases this
   have hv:(ints vH)[p.length]?=some (I sn):=sG hv0
   have ia:fU 1 (wk vH) (I p.length)=some (.aJ (ints vH) p.length):=by
    have:=ki (show p.length<vH.length by omega)
    simp only[fU,wk,if_true,this,uC,uK,Vk]
   obtain⟨h1,k1,k2,k3⟩:=xw st 3 3 rfl (by omega)
   rw[J9]at k1 k2
   have hal:a<h.next:=h.lt _ _ hg
   have hg1:h1.get a=some (ints o):=by rw[k3.Bt a hal hac hoa];exact hg
   have a1:fU 1 (.aD a 0 19 1) (I sn)=some (.aC a sn):=by simp [fU,ki (show sn<19 by omega)]
   have hset:(ints o).set sn (I ((vm (Er c) 3 S).1:Nat))=ints (o.set sn ((vm (Er c) 3 S).1:Nat)):=by simp [ints,List.map_set]
   have hst:tO h1 a sn 1 [I ((vm (Er c) 3 S).1:Nat)] (some (ints o))=some (h1.set a (ints (o.set sn ((vm (Er c) 3 S).1:Nat)))):=by
    rw[uh (by rw[k3.fl];exact hf) (by rw[pt];omega) rfl,hset]
   have w2:IntKind.wrap .i64 ((p.length:Int)+1)=(((p++[(sn:Int)]).length:Nat):Int):=by
    rw[uZ];exact u5 (n:=p.length+1) (by omega)
   have step:aK (aQ AP.A) bz AP.f24L0 (ax [(0,.aC c.f 0),(2,m2),(3,m3),(4,I many),(5,.aD a 0 19 1),(6,wk vH),(7,I p.length)] [0,2,3,4,5,6,7]) h=some (.normal,[(0,.aC c.f 0),(2,m2),(3,m3),(4,I many),(5,.aD a 0 19 1),(6,wk vH),(7,I (p++[(sn:Int)]).length)],h1.set a (ints (o.set sn ((vm (Er c) 3 S).1:Nat)))):=by
    clear hset
    generalize ints (o.set sn ((vm (Er c) 3 S).1:Nat))=W at *
    generalize (p++[(sn:Int)]).length=B at *
    generalize (vm (Er c) 3 S).1=G at *
    generalize ints o=OO at *
    generalize wk vH=RO at *
    unfold AP.f24L0
    refine ue (e1:=[(0,.aC c.f 0),(2,m2),(3,m3),(4,I many),(5,.aD a 0 19 1),(6,RO),(7,I p.length)]) (h1:=h) ?_ ?_
    · simp only[I]at *
      simp only[go_sem,US c1]
    refine ue (e1:=[(0,.aC c.f 0),(2,m2),(3,m3),(4,I many),(5,.aD a 0 19 1),(6,RO),(7,I p.length)]) (h1:=h1.set a W) ?_ ?_
    · rw[mZ,DO (e':=[(47,.aC a sn),(46,I G),(45,.aC c.f 0),(44,I sn),(43,.aJ (ints vH) p.length),(42,I p.length),(41,RO),(40,.aD a 0 19 1),(0,.aC c.f 0),(2,m2),(3,m3),(4,I many),(5,.aD a 0 19 1),(6,RO),(7,I p.length)]) (h':=h1.set a W) (gs:=[h,h1,h1.set a W])]
      · simp only[go_sem]
      · simp only[I]at *
        simp only[yR,A8,A3,Bb,Ba,bX.aN,go_sem,ia,hv,k1,a1,hg1,hst]
      · refine yU (fun k hk=> ?_) rfl
        obtain rfl:k=1:=by simpa using hk
        refine yT (o:=⟨some 44,.load false 1 (.t 43),none⟩) (g:=h1) (h':=h1) (d:=44) (u:=I sn) rfl rfl rfl rfl ?_ ?_
        · simp only[ai,go_sem,hv]
        · simp only[go_sem,I,BB]
    · simp only[I]at *
      simp only[go_sem,w2]
   have st2:Ft c (vm (Er c) 3 S).2 (h1.set a (ints (o.set sn ((vm (Er c) 3 S).1:Nat)))) ov:=k2.wN (by simp) (by simp) fun i hi=>by
    rw[H.dE,if_neg]
    rintro rfl
    rcases hi with hi|hi
    · exact hac hi
    · exact hoa hi
   obtain⟨e',h',q1,q2,q3,q4,q5,q6,q7,q8,q9,q10⟩:=Dh a many hmany m2 m3 q (p++[(sn:Int)]) (o.set sn ((vm (Er c) 3 S).1:Nat)) _ _ ov (by rw[hp];simp) st2 hoa hac (by rw[H.dE,if_pos rfl,hg1];rfl) (by simpa using ho) (by simp [k3.fl];exact hf)
   refine⟨e',h',sZ step q1,q2,q3,q4,q5, ?_, ?_,by rw[q8];simp [k3.fl],by have:=k3.nx;simp at q9;omega,fun i i1 i2 i4 i5=> ?_⟩
   · rw[ye];exact q6
   · rw[ye];exact q7
   · rw[q10 i (by have:=k3.nx;simp;omega) i2 i4 i5,H.dE,if_neg i5,k3.Bt i i1 i2 i4]
theorem FQ {c:FC} {S:SS} {h:H} {ov:AV} (cl:List Int) (hcl:cl.length<1000) (st:Ft c S h ov) (he:S.e=0) (many:Nat) (hm:many≤400):
 ∃ h' S' v, aQ AP.A 53 [.aC c.f 0, vu cl, I many] h = some (v, h') ∧ Ft c S' h' ov ∧ FF c h ov h' ov ∧ match vT c.text cl many (8 * c.text.size + 1) [] S.at_ with
   |some (L,p)=>S'={S with at_:=p}∧L.length=many∧mX h' v (ints L)∧∀j,v.id?=some j→h.next≤j
   |none=>S'.e=700:=by
 obtain⟨h',S',q1,q2,q3⟩:=Cd h cl hcl many hm (8* c.text.size+1) [] S h ov .aO st he (by omega) (FF.refl _ _ _) (.inl ⟨rfl,rfl⟩) (by simp) (fun j q=>by cases q) (fun j hj=>st.lt hj)
 have close:∀e' v,Lp AP.A [0,1,2,7] AP.f53L1 [(0,.aC c.f 0),(1,vu cl),(2,I many),(7,.aO)] h=some (.exit 0,e',h')→look e' 7=v→aQ AP.A 53 [.aC c.f 0,vu cl,I many] h=some (v,h'):=by
  intro e' v r1 r2
  refine tr (fn:=AP.f53) (e:=[(6,v)]) (vs:=[v]) rfl rfl rfl ?_ rfl
  simp only[I]at *
  simp only[AP.f53,go_sem,rR,r1,r2]
 cases hL:vT c.text cl many (8* c.text.size+1) [] S.at_ with
 | some q =>
   rw[hL]at q3
   obtain⟨r1,r2,e',v',r3,r4,r5,r6⟩:=q3
   exact⟨h',S',v',close e' v' r3 r4,q1,q2,r1,r2,r5,r6⟩
 | none =>
   rw[hL]at q3
   obtain⟨r1,⟨e',v',r3,r4⟩|⟨e',r3,r4⟩⟩:=q3
   · exact⟨h',S',v',close e' v' r3 r4,q1,q2,r1⟩
   · refine⟨h',S',.aO, ?_,q1,q2,r1⟩
     refine tr (fn:=AP.f53) (e:=e') (vs:=[.aO]) rfl rfl rfl ?_ (by simp only[AP.f53,cL,mQ,r4];rfl)
     simp only[I]at *
     simp only[AP.f53,go_sem,rR,r3]
theorem FJ (t:ByteArray) (most:Int) (out:List Nat) {p:Nat} (hp:¬p+14≤8* t.size):CV t most p out=.error 700:=by
 unfold CV
 split
 · dsimp only
   split
   · rfl
   · have:∀m,yj t m (p+10)=none:=fun m=>by rw[yj,if_neg (by omega)]
     rw[this]
 · rfl
theorem FN {c : FC} {S : SS} {h : H} {ov : AV} (st : Ft c S h ov) (he : S.e = 0) :
 ∃h' ov' S',aQ AP.A 24 [.aC c.f 0] h=some (.bO [],h')∧Ft c S' h' ov'∧FF c h ov h' ov'∧Fin (CV c.text c.most S.at_ S.out) S':=by
 obtain⟨h1,a1,a2,a3⟩:=xw st 5 5 rfl (by omega)
 obtain⟨h2,b1,b2,b3⟩:=xw a2 5 5 rfl (by omega)
 obtain⟨h3,d1,d2,d3⟩:=xw b2 4 4 rfl (by omega)
 obtain⟨A,hA⟩:∃n,n=(vE c 5 S).1:=⟨_,rfl⟩
 obtain⟨S1,hS1⟩:∃n,n=(vE c 5 S).2:=⟨_,rfl⟩
 rw[←hA]at a1;rw[←hS1]at a2 b1 b2 d1 d2
 obtain⟨B,hB⟩:∃n,n=(vE c 5 S1).1:=⟨_,rfl⟩
 obtain⟨S2,hS2⟩:∃n,n=(vE c 5 S1).2:=⟨_,rfl⟩
 rw[←hB]at b1;rw[←hS2]at b2 d1 d2
 obtain⟨C,hC⟩:∃n,n=(vE c 4 S2).1:=⟨_,rfl⟩
 obtain⟨S3,hS3⟩:∃n,n=(vE c 4 S2).2:=⟨_,rfl⟩
 rw[←hC]at d1;rw[←hS3]at d2
 have g5:∀S,(vE c 5 S).1<32:=fun S=>by
  unfold vE;split
  · simpa using vU c.text S.at_ 5
  · simp
 have hA32:A<32:=hA ▸ g5 S
 have hB32:B<32:=hB ▸ g5 S1
 have hC16:C<16:=by
  rw[hC];unfold vE;split
  · simpa using vU c.text S2.at_ 4
  · simp
 have w1:IntKind.wrap .i64 (257+(A:Int))=((A+257:Nat):Int):=by rw[show 257+(A:Int)=((A+257:Nat):Int)by omega];exact u5 (by omega)
 have w2:IntKind.wrap .i64 (1+(B:Int))=((B+1:Nat):Int):=by rw[show 1+(B:Int)=((B+1:Nat):Int)by omega];exact u5 (by omega)
 have w3:IntKind.wrap .i64 (4+(C:Int))=((C+4:Nat):Int):=by rw[show 4+(C:Int)=((C+4:Nat):Int)by omega];exact u5 (by omega)
 have gf3:=d2.gf
 have he3:S3.e=0∨S3.e=700:=by rw[hS3];exact AZ c 4 _ (by rw[hS2];exact AZ c 5 _ (by rw[hS1];exact AZ c 5 S (.inl he)))
 have fr3:=(a3.trans b3).trans d3
 have bad:(S3.e≠0∨286<A+257∨30<B+1)→∃h' ov' S',aQ AP.A 24 [.aC c.f 0] h=some (.bO [],h')∧Ft c S' h' ov'∧FF c h ov h' ov'∧S'.e=700∧(700:Int)≠0:=by
  intro hb
  obtain⟨h4,f1,f2,f3⟩:=xN d2
  refine⟨h4,ov,vo 700 S3, ?_,f2,fr3.trans f3,by rcases he3 with q|q<;>simp [vo,q],by decide⟩
  refine tr (fn:=AP.f24) (e:=[]) (vs:=[]) rfl rfl rfl ?_ rfl
  by_cases c1:S3.e=0
  · have c1':=tV c1
    by_cases c2:286<A+257
    · have c2':(286:Int)<((A+257:Nat):Int):=by omega
      simp only[I]at *
      simp only[AP.f24,go_sem,a1,b1,d1,w1,w2,w3,gf3,c1',US c2',f1]
    · have c2':¬(286:Int)<((A+257:Nat):Int):=by omega
      have c3':(30:Int)<((B+1:Nat):Int):=by
       rcases hb with q|q|q
       · exact absurd c1 q
       · exact absurd q c2
       · omega
      simp only[I]at *
      simp only[AP.f24,go_sem,a1,b1,d1,w1,w2,w3,gf3,c1',UQ c2',US c3',f1]
  · have c1':=tW c1
    simp only[I]at *
    simp only[AP.f24,go_sem,a1,b1,d1,w1,w2,w3,gf3,c1',f1]
 by_cases hp:S.at_+14≤8* c.text.size
 · unfold CV
   have e1:vE c 5 S=(vi c.text S.at_ 5,{S with at_:=S.at_+5}):=by rw[vE,if_pos (by omega)]
   rw[e1]at hA hS1;dsimp only at hA hS1
   have e2:vE c 5 {S with at_:=S.at_+5}=(vi c.text (S.at_+5) 5,{S with at_:=S.at_+5+5}):=by rw[vE,if_pos (by show S.at_+5+5≤_;omega)]
   rw[hS1,e2]at hB hS2;dsimp only at hB hS2
   have e3:vE c 4 {S with at_:=S.at_+5+5}=(vi c.text (S.at_+5+5) 4,{S with at_:=S.at_+5+5+4}):=by rw[vE,if_pos (by show S.at_+5+5+4≤_;omega)]
   rw[hS2,e3]at hC hS3;dsimp only at hC hS3
   rw[if_pos (show S.at_+10≤8* c.text.size by omega)]
   dsimp only
   rw[←hA,←hB]
   by_cases hbig:286<A+257∨30<B+1
   · rw[if_pos hbig];exact bad (.inr hbig)
   rw[if_neg hbig]
   have he30:S3.e=0:=by rw[hS3];exact he
   have hat3:S3.at_=S.at_+14:=by rw[hS3]
   have c1':(S3.e !=0)=false:=tV he30
   have c2':¬(286:Int)<((A+257:Nat):Int):=by omega
   have c3':¬(30:Int)<((B+1:Nat):Int):=by omega
   have w4:IntKind.wrap .i64 (((A+257:Nat):Int)+((B+1:Nat):Int))=((A+257+(B+1):Nat):Int):=by
    rw[show((A+257:Nat):Int)+((B+1:Nat):Int)=((A+257+(B+1):Nat):Int)by omega];exact u5 (by omega)
   obtain⟨a,ha⟩:∃a,a=h3.next:=⟨_,rfl⟩
   obtain⟨g0,hg0⟩:∃g,g=h3.alloc (ints (List.replicate 19 0)):=⟨_,rfl⟩
   have al:=d2.alloc (ints (List.replicate 19 0))
   rw[←hg0]at al
   have hga:g0.get a=some (ints (List.replicate 19 0)):=by rw[hg0,H.aV,if_pos ha]
   have oc:=IY g0
   have bt:∀e:Env,aX e (.iU 1 8 [.int .i64 0] (.c (.int .i64 19)) (.c (.int .i64 19)))=some (ints (List.replicate 19 0),fun i=>.aD i 0 19 1):=fun _=>rfl
   have hac:a≠c.f:=fun e=>by have:=d2.lt (.inl e);omega
   have hoa:ov.id?≠some a:=fun e=>by have:=d2.lt (.inr e);omega
   obtain⟨e4,h4,l1,l2,l3,l4,l5,l6,l7,l8,l9,l10⟩:=Dh (c:=c) a (C+4) (by omega) (I (A+257:Nat)) (I (B+1:Nat)) (vH.take (C+4)) [] (List.replicate 19 0) S3 g0 ov rfl al.1 hoa hac hga (by simp) (by rw[hg0,ha];simp;exact d2.nx)
   have l1':Lp AP.A [0,2,3,4,5,6,7] AP.f24L0 [(0,.aC c.f 0),(2,I (A+257:Nat)),(3,I (B+1:Nat)),(4,I (C+4:Nat)),(5,.aD a 0 19 1),(6,wk vH),(7,I 0)] g0=some (.exit 0,e4,h4):=l1
   clear l1
   have hn0:g0.next=h3.next+1:=by rw[hg0];simp
   have fr4:FF c h ov h4 ov:=by
    refine⟨by rw[l8,al.2.fl,fr3.fl], ?_,fun id i1 i2 i4=> ?_,fun i hi=>.inl hi⟩
    · have:=fr3.nx;omega
    · have:=fr3.nx
      rw[l10 id (by omega) i2 i4 (by omega),al.2.Bt id (by omega) i2 i4,fr3.Bt id i1 i2 i4]
   obtain⟨cl,hcl⟩:∃cl,cl=(ye (Er c) (vH.take (C+4)) (List.replicate 19 0) S3).1:=⟨_,rfl⟩
   obtain⟨S4,hS4⟩:∃cl,cl=(ye (Er c) (vH.take (C+4)) (List.replicate 19 0) S3).2:=⟨_,rfl⟩
   rw[←hS4]at l6;rw[←hcl]at l7
   have hcll:cl.length=19:=by rw[hcl,Cy];simp
   have hol:(vH.take (C+4)).length=C+4:=by rw[List.length_take];show min (C+4) 19=C+4;omega
   have hR:Rd h4 (.aD a 0 19 1) (ints cl):=by
    refine⟨?_,by intro s e;cases e⟩
    simp [aR,l7,hcll,uU]
   have ck:=BZ h4 (.aD a 0 19 1) cl (by omega) hR
   have bk:=zm h4 (.aD a 0 19 1) cl (by omega) hR
   have gf4:=l6.gf
   have he4:S4.e=0∨S4.e=700:=by rw[hS4];exact I0 _ _ _ _ (.inl he30)
   have bad2:(S4.e≠0∨vR cl≠0)→∃h' ov' S',aQ AP.A 24 [.aC c.f 0] h=some (.bO [],h')∧Ft c S' h' ov'∧FF c h ov h' ov'∧S'.e=700∧(700:Int)≠0:=by
    intro hb
    obtain⟨h5,f1,f2,f3⟩:=xN l6
    refine⟨h5,ov,vo 700 S4, ?_,f2,fr4.trans f3,by rcases he4 with q|q<;>simp [vo,q],by decide⟩
    refine tr (fn:=AP.f24) (e:=[]) (vs:=[]) rfl rfl rfl ?_ rfl
    by_cases q1:S4.e=0
    · have q1':=tV q1
      have q2':(vR cl !=0)=true:=tW (by rcases hb with q|q;exact absurd q1 q;exact q)
      simp only[I]at *
      simp only[AP.f24,go_sem,a1,b1,d1,w1,w2,w3,gf3,c1',UQ c2',UQ c3',bt,←hg0,←ha,oc,rR,l1',l2,l3,l4,l5,gf4,q1',ck,q2',f1]
    · have q1':=tW q1
      simp only[I]at *
      simp only[AP.f24,go_sem,a1,b1,d1,w1,w2,w3,gf3,c1',UQ c2',UQ c3',bt,←hg0,←ha,oc,rR,l1',l2,l3,l4,l5,gf4,q1',f1]
   have hlens:yj c.text (A+257+(B+1)) (S.at_+10)=if S.at_+14+3* (C+4)≤8* c.text.size then(if vR (CY c.text (vH.take (C+4)) (S.at_+14) (List.replicate 19 0))=0 then vT c.text (CY c.text (vH.take (C+4)) (S.at_+14) (List.replicate 19 0)) (A+257+(B+1)) (8* c.text.size+1) [] (S.at_+14+3* (C+4))else none)else none:=by
    have hC':vi c.text (S.at_+10) 4=C:=hC.symm
    unfold yj
    rw[if_pos (show S.at_+10+4≤8* c.text.size by omega)]
    dsimp only
    rw[hC',show S.at_+10+4=S.at_+14 by omega]
   by_cases hp2:S.at_+14+3* (C+4)≤8* c.text.size
   · have ok := Ed (Er c) (vH.take (C + 4)) (List.replicate 19 0) S3 he30 (by rw [hol, hat3]; exact hp2)
     rw[ok]at hcl hS4
     dsimp only at hcl hS4
     rw[hol]at hS4
     rw[hat3]at hcl
     have hcl':cl=CY c.text (vH.take (C+4)) (S.at_+14) (List.replicate 19 0):=hcl
     rw[if_pos hp2,←hcl']at hlens
     by_cases hck:vR cl=0
     · rw [if_pos hck] at hlens
       have he40:S4.e=0:=by rw[hS4];exact he30
       have hat4:S4.at_=S.at_+14+3* (C+4):=by rw[hS4];show S3.at_+3* (C+4)=_;rw[hat3]
       have q1':=tV he40
       have q2':=tV hck
       obtain⟨h5,S5,av,m1,m2,m3,m4⟩:=FQ cl (by omega) l6 he40 (A+257+(B+1)) (by omega)
       have gf5:=m2.gf
       rw[hat4]at m4
       rw[hlens]
       cases hL:vT c.text cl (A+257+(B+1)) (8* c.text.size+1) [] (S.at_+14+3* (C+4))with
       | none =>
         rw[hL]at m4
         have q3':(S5.e !=0)=true:=tW (by rw[m4];decide)
         refine⟨h5,ov,S5, ?_,m2,fr4.trans m3,m4,by decide⟩
         refine tr (fn:=AP.f24) (e:=[(0,.aC c.f 0),(2,I (A+257:Nat)),(8,av),(71,.bool true)]) (vs:=[]) rfl rfl rfl ?_ rfl
         simp only[I]at *
         simp only[AP.f24,go_sem,a1,b1,d1,w1,w2,w3,gf3,c1',UQ c2',UQ c3',bt,←hg0,←ha,oc,rR,l1',l2,l3,l4,l5,gf4,q1',ck,q2',bk,w4,m1,gf5,q3']
       | some q =>
         obtain⟨L,p2⟩:=q
         rw[hL]at m4
         obtain⟨m4,m5,m6,m7⟩:=m4
         have he5:S5.e=0:=by rw[m4];exact he40
         have q3':=tV he5
         have hrng:xx L:=Dp (t:=c.text) (many:=A+257+(B+1)) (p:=S.at_+10) (p2:=p2) (by rw[hlens,hL])
         dsimp only
         obtain⟨id,hav,hgid⟩:∃id,av=.aD id 0 (A+257+(B+1)) 1∧h5.get id=some (ints L):=by
          rcases m6 with ⟨_,q⟩|⟨id,q1,q2,_⟩
          · have:=Vi List.length q;rw[pt,m5,UT]at this;omega
          · exact⟨id,by rw[q1,pt,m5],q2⟩
         have hil:(ints L).length=A+257+(B+1):=by rw[pt,m5]
         have s1:=DQ (h:=h5) (k:=A+257) hgid hil (uF _) (by omega)
         have s2:=FG (h:=h5) (k:=A+257) hgid hil (by omega)
         rw[show A+257+(B+1)-(A+257)=B+1 by omega]at s2
         rw[←hav]at s1 s2
         obtain⟨la,hla⟩:∃x,x=L.take (A+257):=⟨_,rfl⟩
         obtain⟨lb,hlb⟩:∃x,x=L.drop (A+257):=⟨_,rfl⟩
         have hlal:la.length=A+257:=by rw[hla,List.length_take];omega
         have hlbl:lb.length=B+1:=by rw[hlb,List.length_drop];omega
         have ra:Rd h5 (.aD id 0 (A+257) 1) (ints la):=by
          refine⟨?_,by intro s e;cases e⟩
          simp only[aR,if_true,hgid,uC]
          rw[if_pos (by rw[hil];omega),hla];simp [ints,List.map_take];omega
         have rb:Rd h5 (.aD id (A+257) (B+1) 1) (ints lb):=by
          refine⟨?_,by intro s e;cases e⟩
          simp only[aR,if_true,hgid,uC]
          rw[if_pos (by rw[hil];omega),hlb]
          have:(ints (L.drop (A+257))).length=B+1:=by rw[pt,←hlb,hlbl]
          rw[this,ints,ints,←List.map_drop,Vk,uU (by rw[UW,←hlb,hlbl];omega)]
         rw[←hla,←hlb]
         have cka:=BZ h5 _ la (by omega) ra
         have ckb:=BZ h5 _ lb (by omega) rb
         have hra:xx la:=fun y hy=>hrng y (List.mem_of_mem_take (hla ▸ hy))
         have hrb:xx lb:=fun y hy=>hrng y (List.mem_of_mem_drop (hlb ▸ hy))
         have sgb:=Jo h5 _ lb (by omega) hrb rb
         have mka:=zm h5 _ la (by omega) ra
         have mkb:=zm h5 _ lb (by omega) rb
         have hel0:la.getD 256 0=L.getD 256 0:=by
          rw[hla,List.getD_eq_getElem?_getD,List.getD_eq_getElem?_getD,uY,if_pos (by omega)]
         have hel:=zK (l:=L) (i:=256) (by omega)
         rw[←hel0]at hel
         obtain⟨id2,i1,i2,i3⟩:=m6.elem hel
         have i2':fU 1 av (I 256)=some (.aC id2 256):=i2
         clear i2
         by_cases hbad:vR la≠0∨la.getD 256 0=0∨(vR lb≠0∧wJ lb=false)
         · rw [if_pos hbad]
           obtain⟨h6,f1,f2,f3⟩:=xN m2
           refine⟨h6,ov,vo 700 S5, ?_,f2,(fr4.trans m3).trans f3,by simp [vo,he5],by decide⟩
           refine tr (fn:=AP.f24) (e:=[]) (vs:=[]) rfl rfl rfl ?_ rfl
           by_cases x1:vR la=0
           · have x1':=tV x1
             by_cases x2:la.getD 256 0=0
             · have x2':=tU x2
               simp only[I]at *
               simp only[AP.f24,go_sem,a1,b1,d1,w1,w2,w3,gf3,c1',UQ c2',UQ c3',bt,←hg0,←ha,oc,rR,l1',l2,l3,l4,l5,gf4,q1',ck,q2',bk,w4,m1,gf5,q3',UU,U6,s1,s2,cka,x1',i2',i3,hel,x2',f1]
             · have x2':=tT x2
               obtain⟨x3,x4⟩:vR lb≠0∧wJ lb=false:=by
                rcases hbad with q|q|q
                · exact absurd x1 q
                · exact absurd q x2
                · exact q
               have x3':=tW x3
               rw[x4]at sgb
               simp only[I]at *
               simp only[AP.f24,go_sem,a1,b1,d1,w1,w2,w3,gf3,c1',UQ c2',UQ c3',bt,←hg0,←ha,oc,rR,l1',l2,l3,l4,l5,gf4,q1',ck,q2',bk,w4,m1,gf5,q3',UU,U6,s1,s2,cka,x1',i2',i3,hel,x2',ckb,x3',sgb,f1]
           · have x1':=tW x1
             simp only[I]at *
             simp only[AP.f24,go_sem,a1,b1,d1,w1,w2,w3,gf3,c1',UQ c2',UQ c3',bt,←hg0,←ha,oc,rR,l1',l2,l3,l4,l5,gf4,q1',ck,q2',bk,w4,m1,gf5,q3',UU,U6,s1,s2,cka,x1',f1]
         · rw [if_neg hbad]
           have x1:vR la=0:=Decidable.byContradiction fun q=>hbad (.inl q)
           have x2:la.getD 256 0≠0:=fun q=>hbad (.inr (.inl q))
           have x1':=tV x1
           have x2':=tT x2
           obtain⟨h6,ov6,S6,r1,r2,r3,r4⟩:=EP la lb (by omega) (by omega) m2 he5
           have last:aK (aQ AP.A) bz (.iS [0,1,2,3,4,5,6,7,8,9] [⟨(some 99),.mv (.t 0),none⟩,⟨(some 100),.mv (.t 8),none⟩,⟨(some 101),.mv (.t 2),none⟩,⟨(some 102),.sl 1 (.t 100) none (some (.t 101)) none,none⟩,⟨(some 103),.call (.c (.fn 21 [] [])) [(.t 102)],none⟩,⟨(some 104),.mv (.t 8),none⟩,⟨(some 105),.mv (.t 2),none⟩,⟨(some 106),.sl 1 (.t 104) (some (.t 105)) none none,none⟩,⟨(some 107),.call (.c (.fn 21 [] [])) [(.t 106)],none⟩,⟨(some 108),.call (.c (.fn 20 [] [])) [(.t 99),(.t 103),(.t 107)],none⟩] [(7,[0])] []) [(0,.aC c.f 0),(2,I (A+257:Nat)),(8,av)] h5=some (.normal,[],h6):=by
            rw[DO (e':=[(108,.bO []),(107,vu lb),(106,.aD id (A+257) (B+1) 1),(105,I (A+257:Nat)),(104,av),(103,vu la),(102,.aD id 0 (A+257) 1),(101,I (A+257:Nat)),(100,av),(99,.aC c.f 0),(0,.aC c.f 0),(2,I (A+257:Nat)),(8,av)]) (h':=h6) (gs:=[h5,h5,h5,h6])]
            · simp only[go_sem]
            · simp only[yR,A8,A3,Bb,Ba,bX.aN,go_sem,UU,U6,s1,s2,mka,mkb,r1]
            · refine yU (fun k hk=> ?_) rfl
              obtain rfl:k=0:=by simpa using hk
              refine yT (o:=⟨some 106,.sl 1 (.t 104) (some (.t 105)) none none,none⟩) (g:=h5) (h':=h5) (d:=106) (u:=.aD id (A+257) (B+1) 1) rfl rfl rfl rfl ?_ ?_
              · simp only[ai,go_sem,UU,U6,s2]
              · simp only[go_sem,Ag]
           refine⟨h6,ov6,S6, ?_,r2,(fr4.trans m3).trans r3, ?_⟩
           · refine vZ (fn:=AP.f24) (e:=[]) (vs:=[]) rfl rfl rfl ?_ rfl
             by_cases x3:vR lb=0
             · have x3':=tV x3
               simp only[I]at *
               simp only[AP.f24,go_sem,a1,b1,d1,w1,w2,w3,gf3,c1',UQ c2',UQ c3',bt,←hg0,←ha,oc,rR,l1',l2,l3,l4,l5,gf4,q1',ck,q2',bk,w4,m1,gf5,q3',UU,U6,s1,s2,cka,x1',i2',i3,hel,x2',ckb,x3',last]
             · have x3':=tW x3
               have x4:wJ lb=true:=by
                cases hs:wJ lb with
                |true=>rfl
                |false=>exact absurd (.inr (.inr ⟨x3,hs⟩)) hbad
               rw[x4]at sgb
               simp only[I]at *
               simp only[AP.f24,go_sem,a1,b1,d1,w1,w2,w3,gf3,c1',UQ c2',UQ c3',bt,←hg0,←ha,oc,rR,l1',l2,l3,l4,l5,gf4,q1',ck,q2',bk,w4,m1,gf5,q3',UU,U6,s1,s2,cka,x1',i2',i3,hel,x2',ckb,x3',sgb,last]
           · have h1:S5.at_=p2:=by rw[m4]
             have h2:S5.out=S.out:=by rw[m4,hS4,hS3]
             rw[h1,h2]at r4;exact r4
     · rw[if_neg hck]at hlens
       rw[hlens]
       exact bad2 (.inr hck)
   · rw[if_neg hp2]at hlens
     rw[hlens]
     refine bad2 (.inl ?_)
     rw[hS4,Cx (Er c) _ _ S3 he30 (by rw[hat3];exact hp) (by rw[hol,hat3];show 8* c.text.size<_;omega)];decide
 · rw[FJ c.text c.most S.out hp]
   refine bad (.inl ?_)
   rw[hS3,hS2,hS1]
   unfold vE
   by_cases q1:S.at_+5≤8* c.text.size
   · simp only[if_pos q1]
     by_cases q2:S.at_+5+5≤8* c.text.size
     · simp only[if_pos q2];rw[if_neg (by omega)];simp [vo,he]
     · simp only[if_neg q2,vo,he,if_true];split<;>simp
   · simp only[if_neg q1,vo,he,if_true]
     split
     · split<;>simp
     · simp;split<;>simp
theorem Dg {c:FC} {S:SS} {h:H} {ov:AV} (st:Ft c S h ov) (b:Int) (hs:b≠0∨(b=0∧S.e≠0)):
 ∃e',Lp AP.A [7,8] AP.f8L0 [(7,.aC c.f 0),(8,I b)] h=some (.exit 0,e',h)∧look e' 7=.aC c.f 0:=by
 have gf:=st.gf
 refine⟨[(7,.aC c.f 0),(29,.bool false)],sY ?_,rfl⟩
 rcases hs with hb|⟨hb,he⟩
 · have c1:=tT hb
   simp only[I]at *
   simp only[AP.f8L0,go_sem,c1]
 · have c1:=tU hb
   have c2:=tT he
   simp only[I]at *
   simp only[AP.f8L0,go_sem,c1,gf,c2]
theorem Df {c : FC} : ∀ (f : Nat) (S : SS) (h : H) (ov : AV), Ft c S h ov → S.e = 0 → 8 * c.text.size < S.at_ + f →
 ∃e' h' ov' S',Lp AP.A [7,8] AP.f8L0 [(7,.aC c.f 0),(8,I 0)] h=some (.exit 0,e',h')∧look e' 7=.aC c.f 0∧Ft c S' h' ov'∧FF c h ov h' ov'∧Fin (xq c.text c.most f S.at_ S.out) S'
 |0,S,h,ov,st,he,hk=>by have:=st.wP;omega
 | f + 1, S, h, ov, st, he, hk => by
   have gf:=st.gf
   rw[he]at gf
   obtain⟨h1,a1,a2,a3⟩:=xw st 1 1 rfl (by omega)
   obtain⟨h2,b1,b2,b3⟩:=xw a2 2 2 rfl (by omega)
   obtain⟨A,hA⟩:∃n,n=(vE c 1 S).1:=⟨_,rfl⟩
   obtain⟨S1,hS1⟩:∃n,n=(vE c 1 S).2:=⟨_,rfl⟩
   rw[←hA]at a1;rw[←hS1]at a2 b1 b2
   obtain⟨B,hB⟩:∃n,n=(vE c 2 S1).1:=⟨_,rfl⟩
   obtain⟨S2,hS2⟩:∃n,n=(vE c 2 S1).2:=⟨_,rfl⟩
   rw[←hB]at b1;rw[←hS2]at b2
   have gf2:=b2.gf
   have fr2:=a3.trans b3
   rw[xq]
   unfold yy
   by_cases hp:S.at_+3≤8* c.text.size
   · rw [if_pos hp]
     have e1:vE c 1 S=(vi c.text S.at_ 1,{S with at_:=S.at_+1}):=by rw[vE,if_pos (by omega)]
     rw[e1]at hA hS1;dsimp only at hA hS1
     have e2:vE c 2 {S with at_:=S.at_+1}=(vi c.text (S.at_+1) 2,{S with at_:=S.at_+1+2}):=by rw[vE,if_pos (by show S.at_+1+2≤_;omega)]
     rw[hS1,e2]at hB hS2;dsimp only at hB hS2
     have he2:S2.e=0:=by rw[hS2];exact he
     have hat:S2.at_=S.at_+3:=by rw[hS2]
     have hout:S2.out=S.out:=by rw[hS2]
     have hA2:A<2:=by rw[hA];simpa using vU c.text S.at_ 1
     dsimp only
     rw[←hA,←hB]
     have ce:=tV he2
     have n0:((0:Int)==0)=true:=rfl
     have z0:((0:Int)==0)=true:=rfl
     have close:∀(r:Rs) (h':H) (ov':AV) (S':SS),aK (aQ AP.A) bz AP.f8L0 (ax [(7,.aC c.f 0),(8,I 0)] [7,8]) h=some (.normal,[(7,.aC c.f 0),(8,I A)],h')→Ft c S' h' ov'→FF c h2 ov h' ov'→Fin r S'→(∀q,r=.ok q→S.at_<q.1)→
      ∃e' h' ov' S',Lp AP.A [7,8] AP.f8L0 [(7,.aC c.f 0),(8,I 0)] h=some (.exit 0,e',h')∧look e' 7=.aC c.f 0∧Ft c S' h' ov'∧FF c h ov h' ov'∧Fin (match (match r with| .ok q=>(.ok (A==1,q.1,q.2):Except Int (Bool×Nat×List Nat))| .error k=>.error k)with| .error k=>.error k| .ok (last,p2,o)=>if last then .ok (p2,o)else xq c.text c.most f p2 o) S':=by
      intro r h' ov' S' step q2 q3 q4 q5
      cases r with
      | error k =>
        have hs:(A:Int)≠0∨((A:Int)=0∧S'.e≠0):=by
         by_cases q:(A:Int)=0
         · exact .inr ⟨q,by rw[q4.1];exact q4.2⟩
         · exact .inl q
        obtain⟨e',r1,r2⟩:=Dg q2 A hs
        exact⟨e',h',ov',S',sZ step r1,r2,q2,fr2.trans q3,q4⟩
      | ok q =>
        obtain⟨p2,o⟩:=q
        simp only[Fin]at q4
        dsimp only
        by_cases hA1:A=1
        · have hb:(A==1)=true:=by rw[hA1];rfl
          rw[hb]
          simp only[if_true]
          obtain⟨e',r1,r2⟩:=Dg q2 A (.inl (by omega))
          exact⟨e',h',ov',S',sZ step r1,r2,q2,fr2.trans q3,q4⟩
        · have hA0:A=0:=by omega
          have hb:(A==1)=false:=by rw[hA0];rfl
          rw[hb]
          simp only[uD,u0]
          rw[hA0]at step
          subst q4
          have h5:=q5 (p2,o) rfl
          dsimp only at h5
          obtain⟨e',h'',ov'',S'',r1,r2,r3,r4,r5⟩:=Df f _ h' ov' q2 rfl (by dsimp only;omega)
          exact⟨e',h'',ov'',S'',sZ step r1,r2,r3,(fr2.trans q3).trans r4,r5⟩
     by_cases d0:B=0
     · rw [if_pos d0]
       obtain⟨h',ov',S',q1,q2,q3,q4⟩:=Ht b2 he2
       rw[hat,hout]at q4
       have d0':((B:Int)==0)=true:=tU (by omega)
       refine close _ h' ov' S' ?_ q2 q3 q4 (fun q hq=> ?_)
       · simp only[I]at *
         simp only[AP.f8L0,go_sem,gf,a1,b1,gf2,ce,d0',q1]
       · unfold yr at hq
         dsimp only at hq
         split at hq
         · split at hq
           · obtain⟨p2,o⟩:=q
             have:=Bg hq;dsimp only;omega
           · cases hq
         · cases hq
     · rw [if_neg d0]
       have d0':((B:Int)==0)=false:=tT (by omega)
       by_cases d1:B=1
       · rw[if_pos d1]
         have d1':((B:Int)==1)=true:=tU (by omega)
         have f1:=Iv h2
         have m1:=zm h2 (wk wB) wB (by rw[yA];omega) (yg _ _)
         have f2:=J1 h2
         have m2:=zm h2 (wk (List.replicate 30 5)) (List.replicate 30 5) (by rw[Vc];omega) (yg _ _)
         obtain⟨h',ov',S',q1,q2,q3,q4⟩:=EP wB (List.replicate 30 5) (by rw[yA];omega) (by rw[Vc];omega) b2 he2
         rw[hat,hout]at q4
         refine close _ h' ov' S' ?_ q2 q3 q4 (fun q hq=>by obtain⟨p2,o⟩:=q;have:=yL hq;dsimp only;omega)
         generalize vu wB=bf at *
         generalize vu (List.replicate 30 5)=bd at *
         generalize wk wB=vf at *
         generalize wk (List.replicate 30 5)=vd at *
         simp only[I]at *
         simp only[AP.f8L0,go_sem,gf,a1,b1,gf2,ce,d0',d1',f1,m1,f2,m2,q1]
       · rw [if_neg d1]
         have d1':((B:Int)==1)=false:=tT (by omega)
         by_cases d2:B=2
         · rw [if_pos d2]
           have d2':((B:Int)==2)=true:=tU (by omega)
           obtain⟨h',ov',S',q1,q2,q3,q4⟩:=FN b2 he2
           rw[hat,hout]at q4
           refine close _ h' ov' S' ?_ q2 q3 q4 (fun q hq=> ?_)
           · simp only[I]at *
             simp only[AP.f8L0,go_sem,gf,a1,b1,gf2,ce,d0',d1',d2',q1]
           · have hb:yy c.text c.most S.at_ S.out=.ok (vi c.text S.at_ 1==1,q.1,q.2):=by
              unfold yy
              rw[if_pos hp]
              dsimp only
              rw[←hB,if_neg d0,if_neg d1,if_pos d2,hq]
             have:=C8 hb
             exact this
         · rw[if_neg d2]
           have d2':((B:Int)==2)=false:=tT (by omega)
           obtain⟨h',q1,q2,q3⟩:=xN b2
           refine close (.error 700) h' ov _ ?_ q2 q3 ⟨by simp [vo,he2],by decide⟩ (fun q hq=>by cases hq)
           simp only[I]at *
           simp only[AP.f8L0,go_sem,gf,a1,b1,gf2,ce,d0',d1',d2',q1]
   · rw [if_neg hp]
     have he2:S2.e=700:=by
      by_cases q1:S.at_+1≤8* c.text.size
      · have e1:vE c 1 S=(vi c.text S.at_ 1,{S with at_:=S.at_+1}):=by rw[vE,if_pos q1]
        rw[e1]at hS1;dsimp only at hS1
        have e2:vE c 2 S1=(0,{S1 with e:=700}):=by rw[vE,if_neg (by rw[hS1];show¬S.at_+1+2≤_;omega),vo,if_pos (by rw[hS1];exact he)]
        rw[e2]at hS2
        rw[hS2]
      · have e1:vE c 1 S=(0,{S with e:=700}):=by rw[vE,if_neg q1,vo,if_pos he]
        rw[e1]at hS1;dsimp only at hS1
        have e2:vE c 2 S1=(0,S1):=by rw[vE,if_neg (by rw[hS1];show¬S.at_+2≤_;omega),vo,if_neg (by rw[hS1];simp)]
        rw[e2]at hS2
        rw[hS2,hS1]
     have ce:(S2.e !=0)=true:=tW (by rw[he2];decide)
     refine⟨[(7,.aC c.f 0),(8,I A),(9,I B),(38,.bool true)],h2,ov,S2,sY ?_,rfl,b2,fr2,he2,by decide⟩
     simp only[I]at *
     simp only[AP.f8L0,go_sem,gf,a1,b1,gf2,ce]
theorem FO (h:H) (t:ByteArray) (most:Int) (hs:t.size<1125899906842624):aQ AP.A 8 [.str t,I most] h=some (Hy (xJ t most),h):=by
 unfold xJ
 by_cases c1:most<0
 · rw[if_pos (.inl c1)]
   refine tM (fn:=AP.f8) (h2:=h.dX) (e:=[(4,.str ⟨#[]⟩),(5,I 0),(6,I 700)]) rfl rfl rfl ?_ rfl rfl
   simp only[I]at *
   simp only[AP.f8,go_sem,US c1]
 by_cases c2:8192<most
 · rw[if_pos (.inr c2)]
   refine tM (fn:=AP.f8) (h2:=h.dX) (e:=[(4,.str ⟨#[]⟩),(5,I 0),(6,I 700)]) rfl rfl rfl ?_ rfl rfl
   simp only[I]at *
   simp only[AP.f8,go_sem,UQ c1,US c2]
 rw[if_neg (by omega)]
 obtain⟨h1,hh1⟩:∃g,g=h.dX.alloc [.str t,I 0,.aO,I most,I 0]:=⟨_,rfl⟩
 have st:Ft ⟨h.next,t,most⟩ ⟨0,[],0⟩ h1 .aO:=by
  refine⟨?_,.inl ⟨rfl,rfl⟩, ?_,by simp [AV.id?], ?_,hs,by simp,by simp;omega,by show most≤900000;omega⟩
  · rw[hh1,H.aV,if_pos (show h.next=h.dX.next from rfl)];rfl
  · rw[hh1];simp
  · rw[hh1];simp
 obtain⟨e',h3,ov,S,q1,q2,q3,q4,q5⟩:=Df (8* t.size+1) ⟨0,[],0⟩ h1 .aO st rfl (by show 8* t.size<0+(8* t.size+1);omega)
 have gf:=q3.gf
 have bx:∀e:Env,look e 19=.agg [.str t,.int .i64 0,.aO,.int .i64 most,.int .i64 0]→aX e (.box 5 (.t 19))=some ([.str t,.int .i64 0,.aO,.int .i64 most,.int .i64 0],fun i=>.aC i 0):=by
  intro e q;simp only[aX,rU,q];rfl
 have fl1:dY [.str ⟨#[]⟩,.int .i64 0] [(0,1,.str t)]=some [.str t,.int .i64 0]:=rfl
 have fl2:dY [.str ⟨#[]⟩,.int .i64 0,.aO,.int .i64 0,.int .i64 0] [(0,2,.agg [.str t,.int .i64 0]),(3,1,.int .i64 most)]=some [.str t,.int .i64 0,.aO,.int .i64 most,.int .i64 0]:=rfl
 have hn:h.dX.next=h.next:=rfl
 dsimp only at q5
 cases hi:xq t most (8* t.size+1) 0 []with
 | error k =>
   rw[hi]at q5
   have c3:(S.e !=0)=true:=tW (by rw[q5.1];exact q5.2)
   have hk:S.e=k:=q5.1
   refine tM (fn:=AP.f8) (h2:=h3) (e:=[(4,.str ⟨#[]⟩),(5,I 0),(6,I k)]) rfl rfl rfl ?_ rfl rfl
   rw[hk]at gf c3
   simp only[I]at *
   simp only[AP.f8,go_sem,UQ c1,UQ c2,hn,U5,Vf,fl1,fl2]
   rw[bx _ rfl]
   simp only[go_sem,←hh1,hn,rR,q1,q2,gf,c3]
 | ok z =>
   obtain⟨p,o⟩:=z
   rw[hi]at q5
   simp only[Fin]at q5
   have c3:(S.e !=0)=false:=tV (by rw[q5])
   have hb:=F5 q3.own
   subst q5
   dsimp only at gf hb c3
   have hle:=q3.wP
   dsimp only at hle
   have w2:IntKind.wrap .i64 ((p:Int)+7)=((p+7:Nat):Int):=u5 (n:=p+7) (by omega)
   have qd:bp .quo (.int .i64 ((p+7:Nat):Int)) (.int .i64 8)=some (.int .i64 (((p+7)/8:Nat):Int)):=by
    rw[rH _ _ _ (by omega),show(8:Int)=((8:Nat):Int)from rfl,xn,u5 (by omega)]
   refine tM (fn:=AP.f8) (h2:=h3) (e:=[(4,.str (bytesOf o)),(5,I ((p+7)/8:Nat)),(6,I 0)]) rfl rfl rfl ?_ rfl rfl
   generalize (p+7)/8=P at *
   generalize p+7=P7 at *
   simp only[I]at *
   simp only[AP.f8,go_sem,UQ c1,UQ c2,hn,U5,Vf,fl1,fl2]
   rw[bx _ rfl]
   simp only[go_sem,←hh1,hn,rR,q1,q2,gf,c3,w2,hb,qd]
abbrev E7 (k:Int):Prop:=k=700∨k=701
theorem CN {t:ByteArray} {most k:Int}:∀{n p:Nat} {out:List Nat},w8 t most n p out=.error k→E7 k
 |0,p,out,h=>by cases h
 | n + 1, p, out, h => by
   unfold w8 at h
   split at h
   · split at h
     · cases h;exact .inr rfl
     · exact CN h
   · cases h;exact .inl rfl
theorem Fq {t:ByteArray} {most k:Int} {p:Nat} {out:List Nat} (h:yr t most p out=.error k):E7 k:=by
 unfold yr at h
 dsimp only at h
 split at h
 · split at h
   · exact CN h
   · cases h;exact .inl rfl
 · cases h;exact .inl rfl
theorem Db {most k:Int} {d:Nat}:∀{n:Nat} {out:List Nat},zk most d n out=.error k→E7 k
 |0,out,h=>by cases h
 | n + 1, out, h => by
   unfold zk at h
   split at h
   · cases h;exact .inr rfl
   · exact Db h
theorem Hm {t : ByteArray} {most k : Int} {dl : List Int} {y p : Nat} {out : List Nat} (h : Ao t most dl y p out = .error k) : E7 k := by
 unfold Ao at h
 split at h
 · cases h;exact .inl rfl
 · split at h
   · split at h
     · cases h;exact .inl rfl
     · split at h
       · cases h;exact .inl rfl
       · split at h
         · split at h
           · cases h
           · rename_i q;cases h;exact Db q
         · cases h;exact .inl rfl
   · cases h;exact .inl rfl
theorem yY {t : ByteArray} {most k : Int} {ll dl : List Int} : ∀ {n p : Nat} {out : List Nat}, xH t most ll dl n p out = .error k → E7 k
 |0,p,out,h=>by cases h;exact .inl rfl
 | n + 1, p, out, h => by
   unfold xH at h
   split at h
   · cases h;exact .inl rfl
   · split at h
     · split at h
       · cases h;exact .inr rfl
       · exact yY h
     · split at h
       · cases h
       · split at h
         · exact yY h
         · rename_i q;cases h;exact Hm q
theorem Ip {t : ByteArray} {most k : Int} {p : Nat} {out : List Nat} (h : CV t most p out = .error k) : E7 k := by
 unfold CV at h
 dsimp only at h
 split at h
 · split at h
   · cases h;exact .inl rfl
   · split at h
     · cases h;exact .inl rfl
     · split at h
       · cases h;exact .inl rfl
       · exact yY h
 · cases h;exact .inl rfl
theorem FH {t : ByteArray} {most k : Int} {p : Nat} {out : List Nat} (h : yy t most p out = .error k) : E7 k := by
 unfold yy at h
 dsimp only at h
 split at h
 · split at h
   · cases h
   · rename_i q
     cases h
     split at q
     · exact Fq q
     · split at q
       · exact yY q
       · split at q
         · exact Ip q
         · cases q;exact .inl rfl
 · cases h;exact .inl rfl
theorem Br {t:ByteArray} {most k:Int}:∀{n p:Nat} {out:List Nat},xq t most n p out=.error k→E7 k
 | 0, p, out, h => by
   unfold xq at h
   cases h;exact .inl rfl
 | n + 1, p, out, h => by
   unfold xq at h
   split at h
   · rename_i q;cases h;exact FH q
   · split at h
     · cases h
     · exact Br h
theorem Av {t:ByteArray} {most k:Int} (h:xJ t most=.error k):E7 k:=by
 unfold xJ at h
 split at h
 · cases h;exact .inl rfl
 · split at h
   · cases h
   · rename_i q;cases h;exact Br q
theorem dt {p:Prop} [Decidable p] (h:p):decide p=true:=US h
theorem df {p:Prop} [Decidable p] (h:¬p):decide p=false:=UQ h
theorem Tl {a b:Int} (h:a=b):(a==b)=true:=by simp [h]
theorem Nt {a b:Int} (h:¬a=b):(a==b)=false:=by simp [h]
theorem PK {a b:Int} (h:¬a=b):(a !=b)=true:=by simp [h]
theorem KY {a b:Int} (h:a=b):(a !=b)=false:=by simp [h]
theorem wi {n:Int} (h: -9223372036854775808≤n∧n<9223372036854775808):IntKind.wrap .i64 n=n:=tx h.1 (by omega)
theorem wb {n:Int} (h:0≤n∧n<256):IntKind.wrap .u8 n=n:=by
 simp [IntKind.wrap,IntKind.bits,IntKind.signed];omega
theorem Qe {i:Int} {n:Nat} (h:0≤i∧i<n):dc (.int .i64 i) n=some i.toNat:=by
 simp [dc,nk,h]
def at_:Nat→aF→aF
 |0,.seq a _=>a
 |0,c=>c
 |n+1,.seq _ b=>at_ n b
 |_+1,c=>c
def F3:Nat→aF→aF
 |0,c=>c
 |n+1,.seq _ b=>F3 n b
 |_+1,c=>c
theorem wx (a b:aF):at_ 0 (.seq a b)=a:=rfl
theorem wC (n:Nat) (a b:aF):at_ (n+1) (.seq a b)=at_ n b:=rfl
theorem CS (c:aF):F3 0 c=c:=rfl
theorem CR (n:Nat) (a b:aF):F3 (n+1) (.seq a b)=F3 n b:=rfl
theorem yN {h:H} {id i:Nat} (e:¬i=id):(h.del id).get i=h.get i:=by rw[H.ed,if_neg e]
theorem AD (h:H):h.dX.next=h.next:=uz rfl rfl
theorem At (h:H):h.dX.floor=h.next:=uz rfl rfl
theorem Au (h:H) (i:Nat):h.dX.get i=h.get i:=uz rfl rfl
theorem D9 (h:H) (i:Nat):(h.del i).next=h.next:=uz rfl rfl
theorem DZ (h:H) (i:Nat):(h.del i).floor=h.floor:=uz rfl rfl
theorem vk {h:H} {cs:List AV} {i:Nat} (e:i=h.next):(h.alloc cs).get i=some cs:=by rw[H.aV,if_pos e]
theorem vN {h:H} {cs:List AV} {i:Nat} (e:¬i=h.next):(h.alloc cs).get i=h.get i:=by rw[H.aV,if_neg e]
theorem vA {h:H} {cs:List AV} {id i:Nat} (e:i=id):(h.set id cs).get i=(h.get i).map fun _=>cs:=by rw[H.dE,if_pos e,e]
theorem vp {h:H} {cs:List AV} {id i:Nat} (e:¬i=id):(h.set id cs).get i=h.get i:=by rw[H.dE,if_neg e]
def xj {α:Type} (b:Bool) (x:α):Option α:=if b then some x else none
theorem wH {α:Type} (x:α):xj true x=some x:=rfl
theorem Jt (h:H) (id off n:Nat) (v cs:List AV):tO h id off n v (some cs)=xj (decide (h.floor≤id)&&(decide (v.length=n)&&(decide (off+n≤cs.length)&&AV.aB v))) (h.set id (setFrom cs off v)):=by
 simp only[tO,uC,xj]
 by_cases c:h.floor≤id∧v.length=n∧off+n≤cs.length∧AV.aB v=true
 · rw[if_pos c];obtain⟨c1,c2,c3,c4⟩:=c;simp [c1,c2,c3,c4]
 · rw[if_neg c,if_neg];simpa using c
theorem GC (n:Nat) (cs:List AV) (off:Nat):hR true n cs off=xj (decide (off+n≤cs.length)) (.agg ((cs.drop off).take n)):=by
 simp only[hR,xj,if_true,UY]
theorem It (z:List AV):dY z []=some z:=rfl
def ER (r:List (Nat×Nat×AV)) (p:Option (List AV)):Option (List AV):=p.bind fun z=>dY z r
theorem Gn (r:List (Nat×Nat×AV)) (z:List AV):ER r (some z)=dY z r:=rfl
theorem Is (z:List AV) (o n:Nat) (v:AV) (r:List (Nat×Nat×AV)):dY z ((o,n,v)::r)=ER r (xj (decide (v.cells.length=n)&&(decide (o+n≤z.length)&&AV.aB v.cells)) (setFrom z o v.cells)):=by
 simp only[dY,xj]
 by_cases c:v.cells.length=n∧o+n≤z.length∧AV.aB v.cells=true
 · rw[if_pos c];obtain⟨c1,c2,c3⟩:=c;simp [c1,c2,c3,ER]
 · rw[if_neg c,if_neg]; · rfl
   simpa using c
def EB (p:Option (List AV)) (f:Nat→AV):Option (List AV×(Nat→AV)):=p.bind fun cs=>some (cs,f)
theorem BQ (cs:List AV) (f:Nat→AV):EB (some cs) f=some (cs,f):=rfl
theorem yJ (e:Env) (z:List AV):aX e (.alloc z)=EB (xj (AV.aB z) z) (fun i=>.aC i 0):=by
 simp only[aX,xj];split<;>rfl
theorem DS (e:Env) (n:Nat) (x:X):aX e (.box n x)=EB (xj (decide ((x.ev e).cells.length=n)&&AV.aB (x.ev e).cells) (x.ev e).cells) (fun i=>.aC i 0):=by
 simp only[aX,xj]
 by_cases c:(x.ev e).cells.length=n∧AV.aB (x.ev e).cells=true
 · rw[if_pos c];simp [c,EB]
 · rw[if_neg c,if_neg]; · rfl
   simpa using c
theorem BR (e:Env) (sz len:Nat) (z:List AV) (ps:List (Nat×X)):aX e (.cR sz len z ps)=EB (ER (ps.map fun p=>(p.1* sz,sz,p.2.ev e)) (xj (decide (z.length=sz)&&(decide (0<sz)&&AV.aB z)) (dP len z))) (fun i=>.aD i 0 len sz):=by
 simp only[aX,xj]
 by_cases c:z.length=sz∧0<sz∧AV.aB z=true
 · rw[if_pos c];simp [c,EB,ER]
 · rw[if_neg c,if_neg]; · rfl
   simpa using c
theorem Jc (z:List AV):dP 0 z=[]:=rfl
theorem Jb (n:Nat) (z:List AV):dP (n+1) z=z++dP n z:=rfl
def Pt (wN:List Nat) (e:Env) (h:H) (b:Bool):dK:=if b then some (.normal,ax e wN,h)else none
theorem IA (wN:List Nat) (e:Env) (h:H):Pt wN e h true=some (.normal,ax e wN,h):=rfl
def Tm (c:ae) (ops:List aj) (fl:List (Nat×List Nat)) (wN:List Nat) (p:Option (Env×H×List H)):dK:=p.bind fun q=>Pt wN q.1 q.2.1 (aY c ops q.1 q.2.2 fl)
theorem KT (c:ae) (ops:List aj) (fl:List (Nat×List Nat)) (wN:List Nat) (e:Env) (h:H) (gs:List H):Tm c ops fl wN (some (e,h,gs))=Pt wN e h (aY c ops e gs fl):=rfl
theorem F4 (c:ae) (l:bJ) (ord:List Nat) (ops:List aj) (x:Nat×List Nat) (fl:List (Nat×List Nat)) (wN:List Nat) (e:Env) (h:H):aK c l (.iS ord ops (x::fl) wN) e h=Tm c ops (x::fl) wN (aM c ops e h):=by
 rw[aK];rfl
theorem Lj (c:ae) (ops:List aj) (e:Env) (gs:List H):aY c ops e gs []=true:=rfl
def SH (c:ae) (ops:List aj) (e:Env) (gs:List H) (i:Nat) (ks:List Nat):Bool:=ks.all (bH c ops e gs i)
theorem Li (c:ae) (ops:List aj) (e:Env) (gs:List H) (i:Nat) (ks:List Nat) (r:List (Nat×List Nat)):aY c ops e gs ((i,ks)::r)=(SH c ops e gs i ks&&aY c ops e gs r):=rfl
theorem Lg (c:ae) (ops:List aj) (e:Env) (gs:List H) (i:Nat):SH c ops e gs i []=true:=rfl
def CL (c : ae) (e : Env) (o : Option aj) (g : Option H) : Bool := match o, g with
 | some o, some g =>
   if o.op.aH then
    match o.dst.map (look e)with
    |some (.bO [])=>true
    | some v => (match v.id?, aX e o.op with
      |some id,some b=>(match g.get id with|some cs=>AV.fX cs b.1|none=>false)
      |_,_=>false)
    |none=>false
   else match o.dst.map (look e)with
    |some v=>(match ai c o e g with|some (u,_)=>AV.beq u v|none=>false)
    |none=>false
 |_,_=>false
theorem Lf (c:ae) (ops:List aj) (e:Env) (gs:List H) (i k:Nat) (r:List Nat):SH c ops e gs i (k::r)=(CL c e (ops[i]?) (gs[k]?)&&SH c ops e gs i r):=by
 unfold SH
 rw[Vl]
 congr 1
def Tg (v:AV) (p:Option (AV×H)):Bool:=match p with|some (u,_)=>AV.beq u v|none=>false
theorem Lh (v u:AV) (h:H):Tg v (some (u,h))=AV.beq u v:=rfl
def Qi (b:Bool) (x y:Bool):Bool:=if b then x else y
theorem Ld (x y:Bool):Qi false x y=y:=rfl
def CZ (c:ae) (e:Env) (o:Option aj) (g:Option H):Bool:=CL c e o g
theorem Lc (c:ae) (e:Env) (d:Nat) (op:bX) (g:H):CL c e (some ⟨some d,op,none⟩) (some g)=Qi op.aH (CZ c e (some ⟨some d,op,none⟩) (some g)) (Tg (look e d) (ah c e g op)):=by
 unfold CZ CL Qi
 dsimp only
 cases op.aH<;>rfl
theorem Lb (c:ae) (e:Env) (d:Nat) (op:bX) (k:Nat) (w:Bool) (g:H):CL c e (some ⟨some d,op,some (k,w)⟩) (some g)=Qi op.aH (CZ c e (some ⟨some d,op,some (k,w)⟩) (some g)) (Tg (look e d) (kS w c e g op (look e k))):=by
 unfold CZ CL Qi
 dsimp only
 cases op.aH with
 |true=>rfl
 |false=>rw[mA];rfl
mutual
theorem beq_refl:∀a:AV,AV.beq a a=true
 | .bot=>rfl
 | .bool b=>by simp [AV.beq]
 | .int k n=>by simp [AV.beq]
 | .str s=>BC s
 | .cH=>rfl
 | .aC i o=>by simp [AV.beq]
 | .aJ c o=>by simp [AV.beq,xe c]
 | .aO=>rfl
 | .aD i o l z=>by simp [AV.beq]
 | .aU t c o l z=>by simp [AV.beq,xe c]
 | .fn f a b=>by simp [AV.beq,xe a,xe b]
 | .eT=>rfl
 | .iface t v=>by simp [AV.beq,beq_refl v]
 | .eU=>rfl
 | .agg c=>by simp [AV.beq,xe c]
 | .bO c=>by simp [AV.beq,xe c]
theorem xe:∀l:List AV,AV.fX l l=true
 |[]=>rfl
 |a::l=>by simp [AV.fX,beq_refl a,xe l]
end
theorem Le (x y:Bool):Qi true x y=x:=rfl
def Qq (c:Option (List AV)) (d:List AV):Bool:=match c with|some cs=>AV.fX cs d|none=>false
theorem KP (c d:List AV):Qq (some c) d=AV.fX c d:=rfl
def El (v : AV) (b : Option (List AV × (Nat → AV))) (g : H) : Bool := match v with
 | .bO []=>true
 | v => match v.id?, b with
   |some id,some b=>Qq (g.get id) b.1
   |_,_=>false
theorem Js (b:Option (List AV×(Nat→AV))) (g:H):El (.bO []) b g=true:=rfl
theorem Jr (i o:Nat) (cs:List AV) (f:Nat→AV) (g:H):El (.aC i o) (some (cs,f)) g=Qq (g.get i) cs:=rfl
theorem Jq (i o l z:Nat) (cs:List AV) (f:Nat→AV) (g:H):El (.aD i o l z) (some (cs,f)) g=Qq (g.get i) cs:=rfl
theorem BI {c : ae} {e : Env} {d : Nat} {op : bX} {gd : Option (Nat × Bool)} {g : H} (hb : op.aH = true) : CZ c e (some ⟨some d, op, gd⟩) (some g) = El (look e d) (aX e op) g := by
 unfold CZ CL
 dsimp only
 rw[hb,if_pos rfl]
 show (match some (look e d) with
  |some (.bO [])=>true
  | some v => (match v.id?, aX e op with
    |some id,some b=>(match g.get id with|some cs=>AV.fX cs b.1|none=>false)
    |_,_=>false)
  |none=>false)=_
 generalize look e d=v
 unfold El Qq
 cases v with
 |bO vs=>cases vs<;>rfl
 |_=>cases aX e op<;>rfl
theorem CM (c:ae) (e:Env) (d:Nat) (z:List AV) (gd:Option (Nat×Bool)) (g:H):CZ c e (some ⟨some d,.alloc z,gd⟩) (some g)=El (look e d) (aX e (.alloc z)) g:=BI rfl
theorem Fp (c:ae) (e:Env) (d n:Nat) (x:X) (gd:Option (Nat×Bool)) (g:H):CZ c e (some ⟨some d,.box n x,gd⟩) (some g)=El (look e d) (aX e (.box n x)) g:=BI rfl
theorem Bx (c:ae) (e:Env) (d n m:Nat) (z:List AV) (ps:List (Nat×X)) (gd:Option (Nat×Bool)) (g:H):CZ c e (some ⟨some d,.cR n m z ps,gd⟩) (some g)=El (look e d) (aX e (.cR n m z ps)) g:=BI rfl
theorem DK (c:ae) (e:Env) (d n m:Nat) (z:List AV) (x y:X) (gd:Option (Nat×Bool)) (g:H):CZ c e (some ⟨some d,.iU n m z x y,gd⟩) (some g)=El (look e d) (aX e (.iU n m z x y)) g:=BI rfl
theorem Ew (b:Bool):AV.beq (.bool b) (.bool b)=true:=by simp [AV.beq]
theorem EA:AV.beq (.bO []) (.bO [])=true:=rfl
theorem Ey:AV.beq .aO .aO=true:=rfl
theorem C6:AV.beq .cH .cH=true:=rfl
theorem IF (sz id off len:Nat) (i:AV):fU sz (.aD id off len sz) i=ua id off sz (dc i len):=by simp [fU,ua]
theorem IE (t:Bool) (cells:List AV) (sz off len:Nat) (i:AV):fU sz (.aU t cells off len sz) i=ub cells off sz (dc i len):=by simp [fU,ub]
def AG (n:Nat) (z:List AV):List AV:=dP n z
def KX (sz bytes:Nat) (zero:List AV) (l c:AV):Option (List AV×(Nat→AV)):=
 match l,c with
 | .int .i64 l,.int .i64 c=>EB (xj (decide (0≤l)&&(decide (l≤c)&&(decide (c≤9223372036854775807)&&(decide ((bytes:Int)* c≤281474976710656)&&(decide (zero.length=sz)&&(decide (0<sz)&&AV.aB zero)))))) (AG c.toNat zero)) (fun i=>.aD i 0 l.toNat sz)
 |_,_=>none
theorem D8 (sz bytes:Nat) (zero:List AV) (l c:Int):KX sz bytes zero (.int .i64 l) (.int .i64 c)=EB (xj (decide (0≤l)&&(decide (l≤c)&&(decide (c≤9223372036854775807)&&(decide ((bytes:Int)* c≤281474976710656)&&(decide (zero.length=sz)&&(decide (0<sz)&&AV.aB zero)))))) (AG c.toNat zero)) (fun i=>.aD i 0 l.toNat sz):=rfl
theorem EC (e : Env) (sz bytes : Nat) (zero : List AV) (l c : X) : aX e (.iU sz bytes zero l c) = KX sz bytes zero (l.ev e) (c.ev e) := by
 simp only[aX]
 cases l.ev e with
 | int k l => cases k <;> cases c.ev e with
   | int k2 c => cases k2 <;> first
     |rfl
     | (simp only [D8, xj]
        by_cases q:0≤l∧l≤c∧c≤9223372036854775807∧(bytes:Int)* c≤281474976710656∧zero.length=sz∧0<sz∧AV.aB zero=true
        · rw[if_pos q];obtain⟨q1,q2,q3,q4,q5,q6,q7⟩:=q
          rw[if_pos]
          · rfl
          · simp [q1,q2,q3,q4,q5,q6,q7]
        · rw[if_neg q,if_neg]
          · rfl
          · simpa using q)
   |_=>rfl
 |_=>cases c.ev e<;>rfl
theorem HW (i o l z:Nat):jc false (.aD i o l z)=some (.int .i64 l):=rfl
theorem HV:jc false .aO=some (.int .i64 0):=rfl
theorem HU (t:Bool) (c:List AV) (o l z:Nat):jc false (.aU t c o l z)=some (.int .i64 l):=rfl
theorem Ae (s:ByteArray):jc true (.str s)=some (.int .i64 s.size):=rfl
theorem JA (a b:Nat):((a:Int)+(b:Int)).toNat=a+b:=by omega
theorem xc (a:Nat):((a:Int)).toNat=a:=by omega
def yi (s:ByteArray) (i:Nat):Nat:=((s[i]?).map (·.toNat)).getD 0
theorem zo (s:ByteArray) (i:Nat):yi s i<256:=by
 unfold yi
 cases s[i]? with
 |none=>simp
 |some b=>simp;exact b.toNat_lt
theorem BF {s:ByteArray} {i:Int} (h:0≤i∧i<s.size):lT (.str s) (.int .i64 i)=some (.int .u8 (yi s i.toNat:Nat)):=by
 have hi:i.toNat<s.size:=by omega
 simp [lT,Qe h,yi,hi]
def Bf {α:Type} (b:Bool) (x y:Option α):Option α:=if b then x else y
theorem Jh {α:Type} (x y:Option α):Bf true x y=x:=rfl
theorem Jg {α:Type} (x y:Option α):Bf false x y=y:=rfl
def P2 (n o k:Nat) (p:Option (List AV)):Option (Nat×List AV):=p.bind fun cs=>xj (decide (o+k* n≤cs.length)) (k,(cs.drop o).take (k* n))
theorem Jp (n o k:Nat) (cs:List AV):P2 n o k (some cs)=xj (decide (o+k* n≤cs.length)) (k,(cs.drop o).take (k* n)):=rfl
theorem K9 (h:H) (n p o k:Nat):aR h n (.aD p o k n)=P2 n o k (h.get p):=by
 simp only[aR,if_true,P2]
 cases h.get p with
 |none=>rfl
 |some cs=>simp only[uC,xj,UY]
theorem K7 (h:H) (t:Bool) (n o k:Nat) (cs:List AV):aR h n (.aU t cs o k n)=xj (decide (o+k* n≤cs.length)) (k,(cs.drop o).take (k* n)):=by
 simp only[aR,if_true,xj,UY]
theorem K8 (h:H) (n:Nat):aR h n .aO=some (0,[]):=uz rfl rfl
theorem La (h:H) (s:ByteArray):aR h 1 (.str s)=some (s.size,s.data.toList.map fun b=>.int .u8 b.toNat):=uz rfl rfl
def Qn (h:H) (n z:Nat) (a:AV) (p:Option (Nat×List AV)):Option (AV×H):=p.bind fun r=>dS h n z a r.1 r.2
theorem H0 (h:H) (n z:Nat) (a:AV) (m:Nat) (bs:List AV):Qn h n z a (some (m,bs))=dS h n z a m bs:=rfl
theorem KN (h:H) (n z:Nat) (a b:AV):kD h n z a b=Qn h n z a (aR h n b):=uz rfl rfl
def SW (h:H) (n z p o k m:Nat) (bs:List AV) (q:Option (List AV)):Option (AV×H):=q.bind fun cs=>
 Bf (decide (o+(k+m)* n≤cs.length)) (some (.aD p o (k+m) n,h.set p (setFrom cs (o+k* n) bs))) (Bf (decide (o+k* n=cs.length)&&roomy z (k+m)) (some (.aD h.next 0 (k+m) n,(h.del p).alloc (cs.drop o++bs))) none)
theorem KK (h:H) (n z p o k m:Nat) (bs cs:List AV):SW h n z p o k m bs (some cs)=Bf (decide (o+(k+m)* n≤cs.length)) (some (.aD p o (k+m) n,h.set p (setFrom cs (o+k* n) bs))) (Bf (decide (o+k* n=cs.length)&&roomy z (k+m)) (some (.aD h.next 0 (k+m) n,(h.del p).alloc (cs.drop o++bs))) none):=rfl
theorem KM (h : H) (n z p o k m : Nat) (bs : List AV) : dS h n z (.aD p o k n) m bs = Bf (decide (m = 0)) (some (.aD p o k n, h)) (Bf (AV.aB bs && (decide (0 < n) && decide (h.floor ≤ p))) (SW h n z p o k m bs (h.get p)) none) := by
 unfold dS Bf
 by_cases c:m=0
 · simp [c]
 · rw [if_neg c]
   simp only[UY,if_neg c]
   by_cases c1:AV.aB bs=false∨n=0
   · rw[if_pos c1,if_neg]
     rcases c1 with c1|c1
     · simp [c1]
     · simp [c1]
   · rw[if_neg c1]
     have q1:AV.aB bs=true:=by cases q:AV.aB bs with|true=>rfl|false=>exact absurd (.inl q) c1
     by_cases c2:h.floor≤p
     · have qq:(AV.aB bs&&(decide (0<n)&&decide (h.floor≤p)))=true:=by simp [q1,c2];omega
       simp only[true_and,if_pos c2,qq,if_true,SW,Bf]
       cases h.get p with
       |none=>rfl
       |some cs=>simp only[uC,UY,uG]
     · have qq:(AV.aB bs&&(decide (0<n)&&decide (h.floor≤p)))=false:=by simp [c2]
       simp only[true_and,if_neg c2,qq];rfl
theorem KL (h:H) (n z m:Nat) (bs:List AV):dS h n z .aO m bs=Bf (decide (m=0)) (some (.aO,h)) (Bf (AV.aB bs&&(decide (0<n)&&roomy z m)) (some (.aD h.next 0 m n,h.alloc bs)) none):=by
 unfold dS Bf
 by_cases c:m=0
 · simp [c]
 · rw[if_neg c]
   simp only[UY,if_neg c]
   by_cases c1:AV.aB bs=false∨n=0
   · rw[if_pos c1,if_neg]
     rcases c1 with c1|c1
     · simp [c1]
     · simp [c1]
   · rw[if_neg c1]
     have q1:AV.aB bs=true:=by cases q:AV.aB bs with|true=>rfl|false=>exact absurd (.inl q) c1
     have q2:0<n:=by omega
     simp [q1,q2]
theorem GG {b n:Nat} (h:1≤b∧(n+n/4+512)* b≤281474976710656):roomy b n=true:=by simp only[roomy,h.1,h.2,and_self,decide_true]
theorem SG {h:H} {n p o k:Nat} {m:Int} {cs:List AV} (hg:h.get p=some cs) (hn:0<n) (hk:o+k* n≤cs.length) (hm:0≤m∧m.toNat≤(cs.length-o)/n):rL h n (.aD p o k n) none (some (.int .i64 m)) none=some (.aD p o m.toNat n):=by
 have h1:k≤(cs.length-o)/n:=by rw[Nat.le_div_iff_mul_le hn];omega
 simp only[rL,hn,and_self,if_true,hg,uC,aA]
 rw[if_pos ⟨by omega,h1⟩]
 have h3:kb (.int .i64 m) ((cs.length-o)/n)=some m.toNat:=by
  simp only[kb,nk,uC]
  rw[if_pos]
  omega
 simp [h3]
theorem zu {α:Type} {C:α→List AV} {n:Nat} (hC:∀x,(C x).length=n):∀{l:List α} {i f:Nat} {x:α},l[i]?=some x→f<n→(l.flatMap C)[i* n+f]?=(C x)[f]?
 |[],i,f,x,h,_=>by simp at h
 | y :: l, 0, f, x, h, hf => by
   obtain rfl:y=x:=by simpa using h
   rw[List.flatMap_cons,Nat.zero_mul,uK,List.getElem?_append_left (by rw[hC];exact hf)]
 | y :: l, i + 1, f, x, h, hf => by
   rw[List.flatMap_cons,List.getElem?_append_right (by rw[hC,uV];omega),hC]
   rw[show(i+1)* n+f-n=i* n+f by rw[uV];omega]
   exact zu hC (by simpa using h) hf
theorem FT {α:Type} {C:α→List AV} {n:Nat} (hC:∀x,(C x).length=n):∀l:List α,(l.flatMap C).length=l.length* n
 |[]=>by simp
 |y::l=>by rw[List.flatMap_cons,uZ,hC,FT hC l,UR,uV];omega
theorem D0 {α:Type} {C:α→List AV} {n:Nat} (hC:∀x,(C x).length=n):∀{l:List α} {i:Nat} {x:α},l[i]?=some x→((l.flatMap C).drop (i* n)).take n=C x
 |[],i,x,h=>by simp at h
 | y :: l, 0, x, h => by
   obtain rfl:y=x:=by simpa using h
   rw[List.flatMap_cons,Nat.zero_mul,U1,List.take_append_of_le_length (by rw[hC];omega),uU (by rw[hC];omega)]
 | y :: l, i + 1, x, h => by
   rw[List.flatMap_cons,List.drop_append,List.drop_of_length_le (by rw[hC,uV];omega),List.nil_append,hC,show(i+1)* n-n=i* n by rw[uV];omega]
   exact D0 hC (by simpa using h)
def wO (n:Nat) (h:H) (v:AV) (k:Nat) (cs:List AV):Prop:=aR h n v=some (k,cs)∧cs.length=k* n∧∀s,v≠.str s
theorem Rd.Ef {h:H} {v:AV} {cs:List AV} (r:Rd h v cs):wO 1 h v cs.length cs:=⟨r.1,by omega,r.2⟩
theorem wO.len {n:Nat} {h:H} {v:AV} {k:Nat} {cs:List AV} (r:wO n h v k cs):jc false v=some (.int .i64 k):=by
 obtain⟨r,_,hs⟩:=r
 unfold aR at r
 split at r
 · obtain⟨h1,h2⟩:=ux (uv r);subst h1;rfl
 · exact absurd rfl (hs _)
 · split at r
   · simp only[uu]at r
     obtain⟨c,_,r⟩:=r
     split at r
     · obtain⟨h1,h2⟩:=ux (uv r);simp [jc,h1]
     · cases r
   · cases r
 · split at r
   · split at r
     · obtain⟨h1,h2⟩:=ux (uv r);simp [jc,h1]
     · cases r
   · cases r
 · cases r
theorem wO.mono {n:Nat} {h g:H} {v:AV} {k:Nat} {cs:List AV} (r:wO n h v k cs) (hg:∀id c,h.get id=some c→g.get id=some c):wO n g v k cs:=by
 obtain⟨r,hl,hs⟩:=r
 refine⟨?_,hl,hs⟩
 unfold aR at r ⊢
 split at r
 · exact r
 · exact r
 · split at r
   · rename_i q;simp only[if_pos q,uu]at r ⊢
     obtain⟨c,h1,r⟩:=r
     exact⟨c,hg _ _ h1,r⟩
   · cases r
 · exact r
 · cases r
theorem wO.at_ {n : Nat} {h : H} {v : AV} {k : Nat} {cs : List AV} (r : wO n h v k cs) : ∃ ad : Int → Nat → AV,
 (∀i:Int,0≤i∧i<k→fU n v (.int .i64 i)=some (ad i 0))∧
 (∀(i:Int) (f g:Nat),0≤i∧i<k→fi g (ad i f)=some (ad i (f+g)))∧
 (∀(i:Int) (f:Nat) (g:H),0≤i∧i<k→jz g (ad i f)=some (ad i f,g))∧
 (∀g:H,(∀id c,h.get id=some c→g.get id=some c)→(∀(i:Int) (f:Nat) (c:AV),0≤i∧i<k→cs[i.toNat* n+f]?=some c→bS false 1 (ad i f) g=some c)∧
   ∀i:Int,0≤i∧i<k→bS true n (ad i 0) g=some (.agg ((cs.drop (i.toNat* n)).take n))):=by
 obtain⟨r,hl,hs⟩:=r
 unfold aR at r
 split at r
 · obtain⟨h1,h2⟩:=ux (uv r);subst h1
   exact⟨fun _ _=>.bot,fun i hi=>by omega,fun i f g hi=>by omega,fun i f g hi=>by omega,fun g _=>⟨fun i f c hi=>by omega,fun i hi=>by omega⟩⟩
 · exact absurd rfl (hs _)
 · rename_i id off len s
   split at r
   · rename_i q
     subst q
     simp only[uu]at r
     obtain⟨d,hd,r⟩:=r
     split at r
     · rename_i hle
       obtain⟨h1,h2⟩:=ux (uv r)
       subst h1
       have bnd:∀i:Int,0≤i∧i<len→i.toNat* s+s≤len* s:=fun i hi=>by
        have:=uI s (show i.toNat+1≤len by omega);rw[uV]at this;omega
       refine⟨fun i f=>.aC id (off+i.toNat* s+f),fun i hi=>by simp [fU,Qe hi],fun i f g _=>by simp [fi];omega,fun i f g _=>rfl,fun g hg=>⟨fun i f c hi hc=> ?_,fun i hi=> ?_⟩⟩
       · simp only[bS,hg _ _ hd,uC,hR,uD,u0]
         rw[←h2,uY]at hc
         split at hc
         · rw[uQ]at hc;rw[uE];exact hc
         · cases hc
       · have:=bnd i hi
         simp only[bS,hg _ _ hd,uC,hR,if_true,Vg]
         rw[if_pos (by omega),←h2,List.drop_take,List.take_take,List.drop_drop,Nat.min_eq_left (by omega)]
     · cases r
   · cases r
 · rename_i t cells off len s
   split at r
   · rename_i q
     subst q
     split at r
     · rename_i hle
       obtain⟨h1,h2⟩:=ux (uv r)
       subst h1
       have bnd:∀i:Int,0≤i∧i<len→i.toNat* s+s≤len* s:=fun i hi=>by
        have:=uI s (show i.toNat+1≤len by omega);rw[uV]at this;omega
       refine⟨fun i f=>.aJ cells (off+i.toNat* s+f),fun i hi=>by simp [fU,Qe hi],fun i f g _=>by simp [fi];omega,fun i f g _=>rfl,fun g hg=>⟨fun i f c hi hc=> ?_,fun i hi=> ?_⟩⟩
       · simp only[bS,hR,uD,u0]
         rw[←h2,uY]at hc
         split at hc
         · rw[uQ]at hc;rw[uE];exact hc
         · cases hc
       · have:=bnd i hi
         simp only[bS,hR,if_true,Vg]
         rw[if_pos (by omega),←h2,List.drop_take,List.take_take,List.drop_drop,Nat.min_eq_left (by omega)]
     · cases r
   · cases r
 · cases r
def vM (n:Nat) (h:H) (v:AV) (k:Nat) (cs:List AV):Prop:=cs.length=k* n∧((v=.aO∧k=0)∨∃id,v=.aD id 0 k n∧h.get id=some cs∧h.floor≤id∧0<k)
theorem vM.nil {n:Nat} {h:H}:vM n h .aO 0 []:=⟨by simp,.inl ⟨rfl,rfl⟩⟩
theorem vM.mono {n:Nat} {h g:H} {v:AV} {k:Nat} {cs:List AV} (o:vM n h v k cs) (hf:g.floor=h.floor) (hg:∀i,v.id?=some i→g.get i=h.get i):vM n g v k cs:=by
 obtain⟨l,o⟩:=o
 refine⟨l, ?_⟩
 rcases o with o|⟨id,rfl,h1,h2,h3⟩
 · exact .inl o
 · exact .inr ⟨id,rfl,by rw[hg id rfl];exact h1,by rw[hf];exact h2,h3⟩
theorem vM.sc {n:Nat} {h:H} {v:AV} {k:Nat} {cs:List AV} (o:vM n h v k cs):v.sc=true:=by
 rcases o.2 with ⟨rfl,_⟩|⟨id,rfl,_⟩<;>rfl
theorem vM.lt {n:Nat} {h:H} {v:AV} {k:Nat} {cs:List AV} (o:vM n h v k cs) {i:Nat} (hi:v.id?=some i):h.floor≤i∧i<h.next:=by
 rcases o.2 with ⟨rfl,_⟩|⟨id,rfl,h1,h2⟩
 · cases hi
 · obtain rfl:=uv hi;exact⟨h2.1,h.lt _ _ h1⟩
theorem vM.rd {n:Nat} {h:H} {v:AV} {k:Nat} {cs:List AV} (o:vM n h v k cs):wO n h v k cs:=by
 obtain⟨l,o⟩:=o
 rcases o with ⟨rfl,rfl⟩|⟨id,rfl,h1,h2⟩
 · have:cs=[]:=U2 (by omega)
   subst this
   exact⟨rfl,by simp,fun _=>by simp⟩
 · refine⟨?_,l,fun _=>by simp⟩
   simp only[aR,if_true,h1,uC,uK]
   rw[if_pos (by omega),U1,uU (by omega)]
theorem vM.app {n:Nat} {h:H} {v:AV} {k:Nat} {cs:List AV} (o:vM n h v k cs) (hfn:h.floor≤h.next) {z m:Nat} (hm:0<m) (hn:0<n) (bs:List AV) (hb:bs.length=m* n) (hc:AV.aB bs=true) (hr:roomy z (k+m)=true):
 ∃v' h',dS h n z v m bs=some (v',h')∧vM n h' v' (k+m) (cs++bs)∧h'.floor=h.floor∧h.next≤h'.next∧(∀i,v.id?≠some i→i≠h.next→h'.get i=h.get i)∧v'.id?=some h.next:=by
 obtain⟨hl,o⟩:=o
 have hll:(cs++bs).length=(k+m)* n:=by rw[uZ,hl,hb,uV]
 rcases o with ⟨rfl,rfl⟩|⟨id,rfl,hg,hf,_⟩
 · have:cs=[]:=U2 (by omega)
   subst this
   refine⟨.aD h.next 0 m n,h.alloc bs, ?_,⟨hll,.inr ⟨h.next,by simp,by simp [H.aV],by simp;omega,by omega⟩⟩,by simp,by simp,fun i _ hi=>by rw[H.aV,if_neg hi],rfl⟩
   unfold dS
   rw[if_neg (by omega),if_neg (by simp [hc];omega)]
   rw[uK]at hr
   simp only[hr,if_true]
 · have hmn:0<m* n:=Nat.mul_pos hm hn
   have hnot:¬0+(k+m)* n≤cs.length:=by rw[hl,uV];omega
   refine⟨.aD h.next 0 (k+m) n,(h.del id).alloc (cs++bs), ?_,⟨hll,.inr ⟨h.next,by simp,by simp [H.aV], ?_,by omega⟩⟩,by simp,by simp,fun i h1 h2=> ?_,rfl⟩
   · unfold dS
     rw[if_neg (by omega),if_neg (by simp [hc];omega)]
     simp only[hf,and_self,if_true,hg,uC]
     rw[if_neg hnot,if_pos ⟨by omega,hr⟩]
     simp
   · have:=h.lt id cs hg;simp;omega
   · rw[H.aV,H.jx,if_neg h2,H.ed,if_neg]
     intro e;subst e;exact h1 rfl
theorem vM.push {n:Nat} {h:H} {v:AV} {k:Nat} {cs:List AV} (o:vM n h v k cs) (hfn:h.floor≤h.next) {z m:Nat} (hm:0<m) (hn:0<n) (bs:List AV) (hb:bs.length=m* n) (hc:AV.aB bs=true) (hr:roomy z (k+m)=true):
 ∃v' h',kD (h.alloc bs) n z v (.aD h.next 0 m n)=some (v',h')∧vM n h' v' (k+m) (cs++bs)∧h'.floor=h.floor∧h.next+1≤h'.next∧(∀i,v.id?≠some i→i<h.next→h'.get i=h.get i)∧v'.id?=some (h.next+1):=by
 have o1:vM n (h.alloc bs) v k cs:=o.mono (by simp) fun i q=>by rw[H.aV,if_neg];have:=o.lt q;omega
 obtain⟨v',h',p1,p2,p3,p4,p5,p6⟩:=o1.app (z:=z) (by simp;omega) hm hn bs hb hc hr
 refine⟨v',h', ?_,p2,by rw[p3];simp,by simpa using p4,fun i q1 q2=> ?_,by simpa using p6⟩
 · have src:aR (h.alloc bs) n (.aD h.next 0 m n)=some (m,bs):=by
    simp only[aR,if_true,H.aV,uC,uK]
    rw[if_pos (by omega),U1,uU (by omega)]
   unfold kD;rw[src,uC];exact p1
 · rw[p5 i q1 (by simp;omega),H.aV,if_neg (by omega)]
def DI (n k:Nat) (cs:List AV):AV:=if k=0 then .aO else .aU false cs 0 k n
theorem Eg {n k:Nat} {h:H} {cs:List AV} (hl:cs.length=k* n):wO n h (DI n k cs) k cs:=by
 unfold DI
 by_cases hk:k=0
 · subst hk
   have:cs=[]:=U2 (by omega)
   subst this
   exact⟨rfl,by simp,fun _=>by simp⟩
 · rw[if_neg hk]
   refine⟨?_,hl,fun _=>by simp⟩
   simp only[aR,if_true,uK]
   rw[if_pos (by omega),U1,uU (by omega)]
theorem vM.yw {n:Nat} {h:H} {v:AV} {k:Nat} {l:List Int} {fl m:Nat} {t:Bool} (o:vM n h v k (ints l)) (hf:fl≤h.floor):snap h.get fl (m+2) t v=some (DI n k (ints l)):=by
 obtain⟨hl,o⟩:=o
 rw[pt]at hl
 rcases o with ⟨rfl,rfl⟩|⟨id,rfl,q,h2,hk⟩
 · rfl
 · unfold snap
   rw[if_neg (by omega),q,uC,if_pos (by rw[pt];omega)]
   rw[U1,uU (by rw[pt];omega),xh]
   unfold DI
   rw[if_neg (by omega)];rfl
attribute [go_sem] List.map_cons List.map_nil Bool.and_true Bool.true_and Bool.and_self List.append_nil Option.map_some Option.map_none Bool.and_false Bool.false_and Bool.or_false Bool.or_true Bool.true_or Bool.false_or Bool.or_self bX.aN bX.aH Int.reduceAdd Int.reduceSub Int.reduceMul Int.reduceNeg Int.reduceToNat List.take_succ_cons List.take_zero List.drop_zero List.drop_succ_cons Int.cast_ofNat_Int Int.natCast_one Int.natCast_zero List.length_set
theorem vh:type_of% @dt∧type_of% @df∧type_of% @Tl∧type_of% @Nt∧type_of% @PK∧type_of% @KY∧type_of% @wi∧type_of% @wb∧type_of% @Ae∧type_of% @BF∧type_of% @JA∧type_of% @xc∧type_of% @Qe∧type_of% @vk∧type_of% @vN∧type_of% @vA∧type_of% @vp∧type_of% @H.jr∧type_of% @H.j6∧type_of% @H.kR∧type_of% @H.jy∧type_of% @Jt∧type_of% @wH∧type_of% @It∧type_of% @Is∧type_of% @Gn∧type_of% @BR∧type_of% @yJ∧type_of% @DS∧type_of% @BQ∧type_of% @Jb∧type_of% @Jc∧type_of% @pE∧type_of% @oU∧type_of% @rk∧type_of% @pN∧type_of% @IF∧type_of% @IE∧type_of% @sE∧type_of% @sF∧type_of% @EC∧type_of% @D8∧type_of% @HW∧type_of% @HV∧type_of% @HU∧type_of% @F4∧type_of% @KT∧type_of% @IA∧type_of% @Lj∧type_of% @Li∧type_of% @Lg∧type_of% @Lf∧type_of% @Lh∧type_of% @Ld∧type_of% @BB∧type_of% @Ew∧type_of% @EA∧type_of% @Ey∧type_of% @C6∧type_of% @BC∧type_of% @Ag∧type_of% @Ez∧type_of% @yR∧type_of% @A8∧type_of% @IW∧type_of% @A3∧type_of% @Bb∧type_of% @Ba∧type_of% @Lc∧type_of% @Lb∧type_of% @tG∧type_of% @beq_refl∧type_of% @xe∧type_of% @Le∧type_of% @KP∧type_of% @Js∧type_of% @Jr∧type_of% @Jq∧type_of% @CM∧type_of% @Fp∧type_of% @Bx∧type_of% @DK:=⟨@dt, @df, @Tl, @Nt, @PK, @KY, @wi, @wb, @Ae, @BF, @JA, @xc, @Qe, @vk, @vN, @vA, @vp, @H.jr, @H.j6, @H.kR, @H.jy, @Jt, @wH, @It, @Is, @Gn, @BR, @yJ, @DS, @BQ, @Jb, @Jc, @pE, @oU, @rk, @pN, @IF, @IE, @sE, @sF, @EC, @D8, @HW, @HV, @HU, @F4, @KT, @IA, @Lj, @Li, @Lg, @Lf, @Lh, @Ld, @BB, @Ew, @EA, @Ey, @C6, @BC, @Ag, @Ez, @yR, @A8, @IW, @A3, @Bb, @Ba, @Lc, @Lb, @tG, @beq_refl, @xe, @Le, @KP, @Js, @Jr, @Jq, @CM, @Fp, @Bx, @DK⟩
theorem zT:type_of% @AD∧type_of% @Au∧type_of% @At∧type_of% @D9∧type_of% @DZ∧type_of% @yN∧type_of% @GC∧type_of% @Jh∧type_of% @Jg∧type_of% @Jp∧type_of% @K9∧type_of% @K7∧type_of% @K8∧type_of% @La∧type_of% @H0∧type_of% @KN∧type_of% @KK∧type_of% @KM∧type_of% @KL∧type_of% @GG∧type_of% @wx∧type_of% @wC∧type_of% @CS∧type_of% @CR:=⟨@AD, @Au, @At, @D9, @DZ, @yN, @GC, @Jh, @Jg, @Jp, @K9, @K7, @K8, @La, @H0, @KN, @KK, @KM, @KL, @GG, @wx, @wC, @CS, @CR⟩
theorem wq:type_of% @H.j6∧type_of% @H.jy∧type_of% @D9∧type_of% @AD∧type_of% @H.jr∧type_of% @H.kR∧type_of% @DZ∧type_of% @At:=⟨@H.j6, @H.jy, @D9, @AD, @H.jr, @H.kR, @DZ, @At⟩
theorem zO:type_of% @vk∧type_of% @vN∧type_of% @vA∧type_of% @vp∧type_of% @yN∧type_of% @Au:=⟨@vk, @vN, @vA, @vp, @yN, @Au⟩
end Ab
set_option maxRecDepth 100000
namespace Ab
open Go
theorem wrap_u32 {n:Nat} (h:n<4294967296):IntKind.wrap .u32 (n:Int)=n:=by
 have e:IntKind.wrap .u32 (n:Int)=(n:Int)%4294967296:=by simp [IntKind.wrap,IntKind.bits,IntKind.signed]
 rw[e];omega
theorem HO (n:Int):IntKind.wrap .u32 n=n%4294967296:=by simp [IntKind.wrap,IntKind.bits,IntKind.signed]
theorem wu {n:Int} (h:0≤n∧n<4294967296):IntKind.wrap .u32 n=n:=by rw[HO];omega
theorem zG {a b:Nat} (ha:a<4294967296) (hb:b<4294967296):a^^^b<4294967296:=Nat.xor_lt_two_pow (n:=32) ha hb
theorem yx {a b:Nat} (ha:a<4294967296) (hb:b<4294967296):bits .xor .u32 (a:Int) (b:Int)=((a^^^b:Nat):Int):=by
 have h3:=zG ha hb
 show IntKind.wrap .u32 (((BitVec.ofInt 32 (a:Int)^^^BitVec.ofInt 32 (b:Int)).toNat:Nat):Int)=_
 rw[BitVec.toNat_xor,xr 32 a (by omega),xr 32 b (by omega)]
 exact wrap_u32 h3
theorem BT {a:Nat} (ha:a<4294967296):bits .and .u32 (a:Int) 1=((a%2:Nat):Int):=by
 show IntKind.wrap .u32 (((BitVec.ofInt 32 (a:Int)&&&BitVec.ofInt 32 ((1:Nat):Int)).toNat:Nat):Int)=_
 rw[BitVec.toNat_and,xr 32 a (by omega),xr 32 1 (by omega),Nat.and_one_is_mod]
 exact wrap_u32 (by omega)
theorem GN {a:Nat} (ha:a<4294967296):oV .shr .u32 (a:Int) 1=some (.int .u32 ((a/2:Nat):Int)):=by
 unfold oV
 rw[if_neg (by omega)]
 have e:(2:Int)^min (Int.toNat 1) IntKind.u32.bits=2:=by decide
 rw[e]
 show some (AV.int .u32 _)=_
 rw[Int.fdiv_eq_ediv_of_nonneg _ (by omega)]
 rfl
theorem D6 {h:H} {a:Nat} (ha:a<4294967296):sH h (.int .u32 (a:Int))=some (.int .u32 ((4294967295-a:Nat):Int),h):=by
 rw[tJ]
 have e:(if IntKind.u32.signed then-1 else IntKind.u32.max)=((4294967295:Nat):Int):=by decide
 rw[e,yx (by omega) ha]
 have h2:4294967295^^^a=4294967295-a:=by
  have h1:a<2^32:=by simpa using ha
  have:4294967295-a=2^32-(a+1):=by omega
  rw[this]
  apply Nat.eq_of_testBit_eq
  intro i
  rw[Nat.testBit_two_pow_sub_succ h1,Nat.testBit_xor,show 4294967295=2^32-1 from rfl,Nat.testBit_two_pow_sub_one]
  by_cases hi:i<32
  · simp [hi]
  · have:a.testBit i=false:=Nat.testBit_lt_two_pow (Nat.lt_of_lt_of_le h1 (U4 (by omega) (by omega)))
    simp [hi,this]
 rw[h2]
def zX (c:Nat):Nat:=if c%2=1 then(c/2)^^^3988292384 else c/2
def Ap:Nat→Nat→Nat
 |0,c=>c
 |n+1,c=>Ap n (zX c)
def ym (c b:Nat):Nat:=Ap 8 (c^^^b)
def xU (s:ByteArray):Nat→Nat→Nat→Nat
 |0,_,c=>c
 |n+1,i,c=>xU s n (i+1) (ym c (yi s i))
theorem AR {c:Nat} (h:c<4294967296):zX c<4294967296:=by
 unfold zX;split
 · exact zG (by omega) (by omega)
 · omega
theorem B7:∀(n:Nat) {c:Nat},c<4294967296→Ap n c<4294967296
 |0,_,h=>h
 |n+1,_,h=>B7 n (AR h)
theorem y5 {c b:Nat} (hc:c<4294967296) (hb:b<256):ym c b<4294967296:=B7 8 (zG hc (by omega))
theorem AU (s:ByteArray):∀(n i:Nat) {c:Nat},c<4294967296→xU s n i c<4294967296
 |0,_,_,h=>h
 |n+1,i,_,h=>AU s n (i+1) (y5 h (zo s i))
theorem Dl (a b d:AV) (h:H):∀(n c k:Nat),k+n=8→c<4294967296→
 ∃e',Lp AP.A [1,5,12,13,22] AP.f103L0 [(1,a),(5,.int .u32 c),(12,b),(13,d),(22,.int .i64 k)] h=some (.exit 2,e',h)∧look e' 1=a∧look e' 5=.int .u32 (Ap n c:Nat)∧look e' 12=b∧look e' 13=d
 | 0, c, k, hk, hc => by
   refine⟨[(1,a),(5,.int .u32 c),(12,b),(13,d),(22,.int .i64 k),(23,.bool false)],sY ?_,rfl,rfl,rfl,rfl⟩
   simp (disch:=omega)only[go_sem,vh,AP.f103L0]
 | n + 1, c, k, hk, hc => by
   obtain⟨e',r1,r2,r3,r4,r5⟩:=Dl a b d h n (zX c) (k+1) (by omega) (AR hc)
   have n1:((k+1:Nat):Int)=(k:Int)+1:=by omega
   have x1:=yx (a:=c/2) (b:=3988292384) (by omega) (by omega)
   have a1:=BT hc
   have s1:=GN hc
   refine⟨e',sZ ?_ r1,r2,r3,r4,r5⟩
   rw[n1]
   unfold zX
   by_cases p:c%2=1
   · rw[if_pos p]
     rw[show((3988292384:Nat):Int)=3988292384 from rfl]at x1
     simp (disch:=omega)only[go_sem,vh,AP.f103L0,a1,s1,x1]
   · rw[if_neg p]
     simp (disch:=omega)only[go_sem,vh,AP.f103L0,a1,s1]
theorem Dm (s:ByteArray) (hs:s.size<1125899906842624) (h:H):∀(n i c:Nat),i+n=s.size→c<4294967296→
 ∃e',Lp AP.A [1,5,12,13] AP.f103L1 [(1,.str s),(5,.int .u32 c),(12,.int .i64 s.size),(13,.int .i64 i)] h=some (.exit 0,e',h)∧look e' 5=.int .u32 (xU s n i c:Nat)
 | 0, i, c, hi, hc => by
   refine⟨[(1,.str s),(5,.int .u32 c),(12,.int .i64 s.size),(13,.int .i64 i),(14,.bool false)],sY ?_,rfl⟩
   simp (disch:=omega)only[go_sem,vh,AP.f103L1]
 | n + 1, i, c, hi, hc => by
   have hb:=zo s i
   obtain⟨e',r1,r2⟩:=Dm s hs h n (i+1) (ym c (yi s i)) (by omega) (y5 hc hb)
   obtain⟨e1,q1,q2,q3,q4,q5⟩:=Dl (.str s) (.int .i64 s.size) (.int .i64 i) h 8 (c^^^yi s i) 0 rfl (zG hc (by omega))
   have q1':Lp AP.A [1,5,12,13,22] AP.f103L0 [(1,.str s),(5,.int .u32 (c^^^yi s i:Nat)),(12,.int .i64 s.size),(13,.int .i64 i),(22,.int .i64 0)] h=some (.exit 2,e1,h):=q1
   clear q1
   have x1:=yx hc (show yi s i<4294967296 by omega)
   have n1:((i+1:Nat):Int)=(i:Int)+1:=by omega
   refine⟨e',sZ ?_ r1,r2⟩
   rw[n1]
   unfold ym
   simp (disch:=omega)only[go_sem,vh,AP.f103L1,wu,x1,rR,q1',q2,q3,q4,q5]
def wX (a:Nat) (s:ByteArray):Nat:=4294967295-xU s s.size 0 (4294967295-a)
theorem Cj (a:Nat) (s:ByteArray):wX a s<4294967296:=by unfold wX;omega
theorem FW (h:H) (s:ByteArray) (a:Nat) (ha:a<4294967296) (hs:s.size<1125899906842624):aQ AP.A 103 [.int .i64 a,.str s] h=some (.int .i64 (wX a s:Nat),h):=by
 obtain⟨e',r1,r2⟩:=Dm s hs h.dX s.size 0 (4294967295-a) (by omega) (by omega)
 have r1':Lp AP.A [1,5,12,13] AP.f103L1 [(1,.str s),(5,.int .u32 (4294967295-a:Nat)),(12,.int .i64 s.size),(13,.int .i64 0)] h.dX=some (.exit 0,e',h.dX):=r1
 clear r1
 have lt:=AU s s.size 0 (c:=4294967295-a) (by omega)
 have v1:∀g:H,sH g (.int .u32 (a:Int))=some (.int .u32 ((4294967295-a:Nat):Int),g):=fun g=>D6 ha
 have v2:∀g:H,sH g (.int .u32 (xU s s.size 0 (4294967295-a):Nat))=some (.int .u32 ((4294967295-xU s s.size 0 (4294967295-a):Nat):Int),g):=fun g=>D6 lt
 refine tM (fn:=AP.f103) (h2:=h.dX) (e:=[(4,.int .i64 (wX a s:Nat))]) rfl rfl rfl ?_ rfl rfl
 unfold wX
 simp (disch:=omega)only[go_sem,vh,AP.f103,wu,v1,v2,rR,r1',r2]
def y9 (x:Int):Bool:=decide (0≤x∧x≤4294967295)
theorem Kd (h:H) (x:Int):aQ AP.A 105 [.int .i64 x] h=some (.bool (y9 x),h):=by
 refine tM (fn:=AP.f105) (h2:=h.dX) (e:=[(2,.bool (y9 x))]) rfl rfl rfl ?_ rfl rfl
 unfold y9
 by_cases c1:0≤x
 · by_cases c2:x≤4294967295
   · simp (disch:=omega)only[go_sem,vh,AP.f105]
   · simp (disch:=omega)only[go_sem,vh,AP.f105]
 · simp (disch:=omega)only[go_sem,vh,AP.f105]
def xE (s:ByteArray):Nat:=wX 0 s
theorem E8 (h:H) (s:ByteArray) (hs:s.size<1125899906842624):aQ AP.A 115 [.str s] h=some (.int .i64 (xE s:Nat),h):=by
 have k1:=FW h.dX s 0 (by omega) hs
 have k1':aQ AP.A 103 [.int .i64 0,.str s] h.dX=some (.int .i64 (xE s:Nat),h.dX):=k1
 refine tM (fn:=AP.f115) (h2:=h.dX) (e:=[(2,.int .i64 (xE s:Nat))]) rfl rfl rfl ?_ rfl rfl
 simp (disch:=omega)only[go_sem,vh,AP.f115,k1']
theorem DL (a d:AV) (h:H):∀(n c k:Nat),k+n=8→c<4294967296→
 ∃e',Lp AP.A [0,1,5,6] AP.f111L0 [(0,.int .u32 c),(1,a),(5,d),(6,.int .i64 k)] h=some (.exit 2,e',h)∧look e' 1=a∧look e' 0=.int .u32 (Ap n c:Nat)∧look e' 5=d
 | 0, c, k, hk, hc => by
   refine⟨[(0,.int .u32 c),(1,a),(5,d),(6,.int .i64 k),(20,.bool false)],sY ?_,rfl,rfl,rfl⟩
   simp (disch:=omega)only[go_sem,vh,AP.f111L0]
 | n + 1, c, k, hk, hc => by
   obtain⟨e',r1,r2,r3,r4⟩:=DL a d h n (zX c) (k+1) (by omega) (AR hc)
   have n1:((k+1:Nat):Int)=(k:Int)+1:=by omega
   have x1:=yx (a:=c/2) (b:=3988292384) (by omega) (by omega)
   have a1:=BT hc
   have s1:=GN hc
   refine⟨e',sZ ?_ r1,r2,r3,r4⟩
   rw[n1]
   unfold zX
   by_cases p:c%2=1
   · rw[if_pos p]
     rw[show((3988292384:Nat):Int)=3988292384 from rfl]at x1
     simp (disch:=omega)only[go_sem,vh,AP.f111L0,a1,s1,x1]
   · rw[if_neg p]
     simp (disch:=omega)only[go_sem,vh,AP.f111L0,a1,s1]
theorem DM (s:ByteArray) (hs:s.size<1125899906842624) (h:H):∀(n i c:Nat),i+n=s.size→c<4294967296→
 ∃e',Lp AP.A [0,1,5] AP.f111L1 [(0,.int .u32 c),(1,.str s),(5,.int .i64 i)] h=some (.exit 0,e',h)∧look e' 0=.int .u32 (xU s n i c:Nat)
 | 0, i, c, hi, hc => by
   refine⟨[(0,.int .u32 c),(1,.str s),(5,.int .i64 i),(10,.bool false)],sY ?_,rfl⟩
   simp (disch:=omega)only[go_sem,vh,AP.f111L1]
 | n + 1, i, c, hi, hc => by
   have hb:=zo s i
   obtain⟨e',r1,r2⟩:=DM s hs h n (i+1) (ym c (yi s i)) (by omega) (y5 hc hb)
   obtain⟨e1,q1,q2,q3,q4⟩:=DL (.str s) (.int .i64 i) h 8 (c^^^yi s i) 0 rfl (zG hc (by omega))
   have q1':Lp AP.A [0,1,5,6] AP.f111L0 [(0,.int .u32 (c^^^yi s i:Nat)),(1,.str s),(5,.int .i64 i),(6,.int .i64 0)] h=some (.exit 2,e1,h):=q1
   clear q1
   have x1:=yx hc (show yi s i<4294967296 by omega)
   have n1:((i+1:Nat):Int)=(i:Int)+1:=by omega
   refine⟨e',sZ ?_ r1,r2⟩
   rw[n1]
   unfold ym
   simp (disch:=omega)only[go_sem,vh,AP.f111L1,wu,x1,rR,q1',q2,q3,q4]
theorem P9 (h:H) (s:ByteArray) (c:Nat) (hc:c<4294967296) (hs:s.size<1125899906842624):aQ AP.A 111 [.int .u32 c,.str s] h=some (.int .u32 (xU s s.size 0 c:Nat),h):=by
 obtain⟨e',r1,r2⟩:=DM s hs h.dX s.size 0 c (by omega) hc
 have r1':Lp AP.A [0,1,5] AP.f111L1 [(0,.int .u32 c),(1,.str s),(5,.int .i64 0)] h.dX=some (.exit 0,e',h.dX):=r1
 clear r1
 refine tM (fn:=AP.f111) (h2:=h.dX) (e:=[(4,.int .u32 (xU s s.size 0 c:Nat))]) rfl rfl rfl ?_ rfl rfl
 simp (disch:=omega)only[go_sem,vh,AP.f111,rR,r1',r2]
theorem B6 (h:H) (s:ByteArray) (hs:s.size<1125899906842624):aQ AP.A 101 [.str s] h=some (.int .i64 (xE s:Nat),h):=by
 have k1:=P9 h.dX s 4294967295 (by omega) hs
 have k1':aQ AP.A 111 [.int .u32 4294967295,.str s] h.dX=some (.int .u32 (xU s s.size 0 4294967295:Nat),h.dX):=k1
 have lt:=AU s s.size 0 (c:=4294967295) (by omega)
 have v2:∀g:H,sH g (.int .u32 (xU s s.size 0 4294967295:Nat))=some (.int .u32 (xE s:Nat),g):=fun g=>D6 lt
 have lt2:=Cj 0 s
 unfold xE at v2 ⊢
 refine tM (fn:=AP.f101) (h2:=h.dX) (e:=[(2,.int .i64 (wX 0 s:Nat))]) rfl rfl rfl ?_ rfl rfl
 simp (disch:=omega)only[go_sem,vh,AP.f101,k1',v2]
theorem Fm {a s:Nat} (hs:s≤64):oV .shr .i64 (a:Int) (s:Int)=some (.int .i64 ((a/2^s:Nat):Int)):=by
 unfold oV
 rw[if_neg (by omega)]
 simp only[IntKind.bits,Vh,Nat.min_eq_left hs]
 rw[Int.fdiv_eq_ediv_of_nonneg _ (Int.pow_nonneg (by omega))]
 simp
theorem Fz (n:Nat):IntKind.wrap .u8 (n:Int)=((n%256:Nat):Int):=by rw[JE];omega
def E1 (x i:Nat):Nat:=x/2^(8* i)%256
def vC (x k:Nat):List Nat:=(List.range k).map (E1 x)
theorem Du (x k:Nat):vC x (k+1)=vC x k++[E1 x k]:=by simp [vC,List.range_succ]
theorem vr (x k:Nat):(vC x k).length=k:=by simp [vC]
def CX (x k:Nat):ByteArray:=bytesOf (vC x k)
theorem Ev {h:H} {v:AV} {k:Nat} {l:List Nat} (o:vM 1 h v k (yH l)):tE h v (aR h 1 v)=some (.str (bytesOf l),h):=by
 rw[o.rd.1]
 simp only[tE,uC,DR]
 rcases o.2 with ⟨rfl,_⟩|⟨id,rfl,_⟩<;>rfl
theorem yX (a b:List Nat):yH (a++b)=yH a++yH b:=by simp [yH]
theorem BX (x:Nat) (k:Nat) (hk:k≤8):∀(m i:Nat) (h:H) (ov:AV),i+m=k→vM 1 h ov i (yH (vC x i))→h.floor≤h.next→
 ∃e' h' ov',Lp AP.A [0,1,5,6] AP.f161L0 [(0,.int .i64 x),(1,.int .i64 k),(5,ov),(6,.int .i64 i)] h=some (.exit 0,e',h')∧look e' 5=ov'∧vM 1 h' ov' k (yH (vC x k))
 | 0, i, h, ov, hi, o, hf => by
   obtain rfl:i=k:=by omega
   refine⟨[(0,.int .i64 x),(1,.int .i64 i),(5,ov),(6,.int .i64 i),(9,.bool false)],h,ov,sY ?_,rfl,o⟩
   simp (disch:=omega)only[go_sem,vh,AP.f161L0]
 | m + 1, i, h, ov, hi, o, hf => by
   obtain⟨v',h',p1,p2,p3,p4,p5,p6⟩:=o.push hf (z:=1) (m:=1) (by omega) (by omega) (yH [E1 x i]) rfl rfl (by simp [roomy];omega)
   rw[←yX,←Du]at p2
   obtain⟨e',h2,ov',r1,r2,r3⟩:=BX x k hk m (i+1) h' v' (by omega) p2 (by omega)
   have n1:((i+1:Nat):Int)=(i:Int)+1:=by omega
   have n2:(8:Int)* (i:Int)=((8* i:Nat):Int):=by omega
   have s1:=Fm (a:=x) (s:=8* i) (by omega)
   have w1:=Fz (x/2^(8* i))
   simp only[yH,U5,Vf,E1]at p1
   refine⟨e',h2,ov',sZ ?_ r1,r2,r3⟩
   rw[n1]
   simp (disch:=omega)only[go_sem,vh,AP.f161L0,n2,s1,w1,p1]
theorem Aj (h:H) (x k:Nat) (hk:k≤8):aQ AP.A 161 [.int .i64 x,.int .i64 k] h=some (.str (CX x k),h):=by
 obtain⟨e',h',ov',r1,r2,r3⟩:=BX x k hk k 0 h.dX .aO (by omega) (by simpa [vC,yH]using vM.nil) (by simp)
 have r1':Lp AP.A [0,1,5,6] AP.f161L0 [(0,.int .i64 x),(1,.int .i64 k),(5,.aO),(6,.int .i64 0)] h.dX=some (.exit 0,e',h'):=r1
 clear r1
 have b:=Ev r3
 refine tM (fn:=AP.f161) (h2:=h') (e:=[(4,.str (CX x k))]) rfl rfl rfl ?_ rfl rfl
 unfold CX
 simp (disch:=omega)only[go_sem,vh,AP.f161,rR,r1',r2,b]
theorem E3 (x k id:Nat) (hk:k≤8):∀(m i:Nat) (h:H),i+m=k→h.get id=some (yH (vC x i++List.replicate m 0))→h.floor≤id→
 ∃e' h',Lp AP.A [0,5,10,11] AP.f104L0 [(0,.int .i64 x),(5,.aD id 0 k 1),(10,.int .i64 k),(11,.int .i64 i)] h=some (.exit 0,e',h')∧look e' 5=.aD id 0 k 1∧h'.get id=some (yH (vC x k))∧h'.floor=h.floor
 | 0, i, h, hi, hg, hf => by
   obtain rfl:i=k:=by omega
   refine⟨[(0,.int .i64 x),(5,.aD id 0 i 1),(10,.int .i64 i),(11,.int .i64 i),(12,.bool false)],h,sY ?_,rfl,by simpa using hg,rfl⟩
   simp (disch:=omega)only[go_sem,vh,AP.f104L0]
 | m + 1, i, h, hi, hg, hf => by
   have g2:(h.set id (yH (vC x (i+1)++List.replicate m 0))).get id=some (yH (vC x (i+1)++List.replicate m 0)):=by rw[vA rfl,hg];rfl
   obtain⟨e',h',r1,r2,r3,r4⟩:=E3 x k id hk m (i+1) _ (by omega) g2 (by simpa using hf)
   have n1:((i+1:Nat):Int)=(i:Int)+1:=by omega
   have n2:(8:Int)* (i:Int)=((8* i:Nat):Int):=by omega
   have s1:=Fm (a:=x) (s:=8* i) (by omega)
   have w1:=Fz (x/2^(8* i))
   have st:tO h id i 1 [.int .u8 ((x/2^(8* i)%256:Nat):Int)] (some (yH (vC x i++List.replicate (m+1) 0)))=some (h.set id (yH (vC x (i+1)++List.replicate m 0))):=by
    rw[uh hf (by simp [vr]) rfl]
    congr 2
    rw[Du,yX,yX,yX,List.set_append_right _ _ (by simp [vr]),List.append_assoc]
    simp [vr,yH,List.replicate_succ,E1]
   refine⟨e',h',sZ ?_ r1,r2,r3,by rw[r4];simp⟩
   rw[n1]
   simp (disch:=omega)only[go_sem,vh,AP.f104L0,n2,s1,w1,hg,st]
theorem zS (h:H) (x k:Nat) (hk:k≤8) (hk0:0<k):aQ AP.A 104 [.int .i64 x,.int .i64 k] h=some (.str (CX x k),h):=by
 obtain⟨h1,eh1⟩:∃g,g=h.dX.alloc (AG k [.int .u8 0]):=⟨_,rfl⟩
 have hz:AG k [.int .u8 0]=yH (vC x 0++List.replicate k 0):=by
  unfold AG;rw[Ei];simp [yH,vC]
 have g1:h1.get h.next=some (yH (vC x 0++List.replicate k 0)):=by rw[eh1,vk (by simp),hz]
 obtain⟨e',h',r1,r2,r3,r4⟩:=E3 x k h.next hk k 0 h1 (by omega) g1 (by rw[eh1];simp)
 have r1':Lp AP.A [0,5,10,11] AP.f104L0 [(0,.int .i64 x),(5,.aD h.next 0 k 1),(10,.int .i64 k),(11,.int .i64 0)] h1=some (.exit 0,e',h'):=r1
 clear r1
 have o:vM 1 h' (.aD h.next 0 k 1) k (yH (vC x k)):=⟨by simp [vr],.inr ⟨h.next,rfl,r3,by rw[r4,eh1];simp,hk0⟩⟩
 have b:=Ev o
 have hn:h.dX.next=h.next:=rfl
 refine tM (fn:=AP.f104) (h2:=h') (e:=[(4,.str (CX x k))]) rfl rfl rfl ?_ rfl rfl
 unfold CX
 simp (disch:=omega)only[go_sem,vh,AP.f104,rR,hn,←eh1,r1',r2,b]
theorem Qm {k:IntKind} {i:Int} {n:Nat} (h:0≤i∧i<n):dc (.int k i) n=some i.toNat:=by simp [dc,nk,h]
def okB (b:Nat):Bool:=decide (97≤b∧b≤122∨48≤b∧b≤57∨b=46∨b=45∨b=95)
def xP (s:ByteArray):Nat→Nat→Bool
 |0,_=>false
 |n+1,i=>decide (i=yi s n)||xP s n i
def Ko:ByteArray:=⟨#[97,98,99,100,101,102,103,104,105,106,107,108,109,110,111,112,113,114,115,116,117,118,119,120,121,122,48,49,50,51,52,53,54,55,56,57,46,45,95]⟩
def bT (P:Nat→Bool):List AV:=mY 256 fun i=>.bool (P i)
theorem zU (P:Nat→Bool):(bT P).length=256:=by simp [bT]
theorem Lr (P:Nat→Bool) {i:Nat} (h:i<256):(bT P)[i]?=some (.bool (P i)):=fS h
theorem Lt (s:ByteArray) (n:Nat):(bT (xP s n)).set (yi s n) (.bool true)=bT (xP s (n+1)):=by
 unfold bT
 rw[tw (zo s n)]
 congr 1
 funext i
 have e:xP s (n+1) i=(decide (i=yi s n)||xP s n i):=rfl
 rw[e]
 unfold tR
 by_cases h:i=yi s n
 · simp [h]
 · simp [h]
theorem Qo:bT (xP Ko 39)=bT okB:=by
 unfold bT mY
 refine List.map_congr_left fun i hi=> ?_
 have hi':i<256:=List.mem_range.1 hi
 have:∀i,i<256→xP Ko 39 i=okB i:=by decide+kernel
 rw[this i hi']
theorem Cs (g:Nat→Option (List AV)) (fl n:Nat) (t:Bool):∀l:List Bool,fJ (snap g fl (n+1) t) (l.map .bool)=some (l.map .bool)
 |[]=>rfl
 | b :: l => by
   have:=Cs g fl n t l
   simp only[U5,fJ,this];rfl
theorem Kj (g:Nat→Option (List AV)) (fl n:Nat) (t:Bool) (P:Nat→Bool):fJ (snap g fl (n+1) t) (bT P)=some (bT P):=by
 have e:bT P=((List.range 256).map P).map .bool:=by unfold bT mY;rw[List.map_map];rfl
 rw[e];exact Cs g fl n t _
theorem H4 (e:Env):aX e (.alloc [.bool false,.bool false,.bool false,.bool false,.bool false,.bool false,.bool false,.bool false,.bool false,.bool false,.bool false,.bool false,.bool false,.bool false,.bool false,.bool false,.bool false,.bool false,.bool false,.bool false,.bool false,.bool false,.bool false,.bool false,.bool false,.bool false,.bool false,.bool false,.bool false,.bool false,.bool false,.bool false,.bool false,.bool false,.bool false,.bool false,.bool false,.bool false,.bool false,.bool false,.bool false,.bool false,.bool false,.bool false,.bool false,.bool false,.bool false,.bool false,.bool false,.bool false,.bool false,.bool false,.bool false,.bool false,.bool false,.bool false,.bool false,.bool false,.bool false,.bool false,.bool false,.bool false,.bool false,.bool false,.bool false,.bool false,.bool false,.bool false,.bool false,.bool false,.bool false,.bool false,.bool false,.bool false,.bool false,.bool false,.bool false,.bool false,.bool false,.bool false,.bool false,.bool false,.bool false,.bool false,.bool false,.bool false,.bool false,.bool false,.bool false,.bool false,.bool false,.bool false,.bool false,.bool false,.bool false,.bool false,.bool false,.bool false,.bool false,.bool false,.bool false,.bool false,.bool false,.bool false,.bool false,.bool false,.bool false,.bool false,.bool false,.bool false,.bool false,.bool false,.bool false,.bool false,.bool false,.bool false,.bool false,.bool false,.bool false,.bool false,.bool false,.bool false,.bool false,.bool false,.bool false,.bool false,.bool false,.bool false,.bool false,.bool false,.bool false,.bool false,.bool false,.bool false,.bool false,.bool false,.bool false,.bool false,.bool false,.bool false,.bool false,.bool false,.bool false,.bool false,.bool false,.bool false,.bool false,.bool false,.bool false,.bool false,.bool false,.bool false,.bool false,.bool false,.bool false,.bool false,.bool false,.bool false,.bool false,.bool false,.bool false,.bool false,.bool false,.bool false,.bool false,.bool false,.bool false,.bool false,.bool false,.bool false,.bool false,.bool false,.bool false,.bool false,.bool false,.bool false,.bool false,.bool false,.bool false,.bool false,.bool false,.bool false,.bool false,.bool false,.bool false,.bool false,.bool false,.bool false,.bool false,.bool false,.bool false,.bool false,.bool false,.bool false,.bool false,.bool false,.bool false,.bool false,.bool false,.bool false,.bool false,.bool false,.bool false,.bool false,.bool false,.bool false,.bool false,.bool false,.bool false,.bool false,.bool false,.bool false,.bool false,.bool false,.bool false,.bool false,.bool false,.bool false,.bool false,.bool false,.bool false,.bool false,.bool false,.bool false,.bool false,.bool false,.bool false,.bool false,.bool false,.bool false,.bool false,.bool false,.bool false,.bool false,.bool false,.bool false,.bool false,.bool false,.bool false,.bool false,.bool false,.bool false,.bool false,.bool false,.bool false,.bool false,.bool false,.bool false,.bool false,.bool false,.bool false,.bool false,.bool false,.bool false,.bool false,.bool false])=some (bT fun _=>false,fun i=>.aC i 0):=rfl
theorem Gv (s:ByteArray) (hs:s.size<100000) (h7:∀i,i<s.size→yi s i<128) (id:Nat):∀(m n:Nat) (h:H),n+m=s.size→h.get id=some (bT (xP s n))→h.floor≤id→
 ∃e' h',Lp AP.A [0,2,4] AP.f127L0 [(0,.str s),(2,.aC id 0),(4,.int .i64 n)] h=some (.exit 0,e',h')∧look e' 2=.aC id 0∧h'.get id=some (bT (xP s s.size))∧h'.floor=h.floor
 | 0, n, h, hn, hg, hf => by
   obtain rfl:n=s.size:=by omega
   refine⟨[(0,.str s),(2,.aC id 0),(4,.int .i64 s.size),(9,.bool false)],h,sY ?_,rfl,hg,rfl⟩
   simp (disch:=omega)only[go_sem,vh,AP.f127L0]
 | m + 1, n, h, hn, hg, hf => by
   have g2:(h.set id (bT (xP s (n+1)))).get id=some (bT (xP s (n+1))):=by rw[vA rfl,hg];rfl
   obtain⟨e',h',r1,r2,r3,r4⟩:=Gv s hs h7 id m (n+1) _ (by omega) g2 (by simpa using hf)
   have n1:((n+1:Nat):Int)=(n:Int)+1:=by omega
   have hb:=zo s n
   have hb7:=h7 n (by omega)
   have ia:dc (.int .u8 (yi s n:Nat)) 256=some (yi s n):=by rw[Qm (by omega)];rfl
   have st:tO h id (yi s n) 1 [.bool true] (some (bT (xP s n)))=some (h.set id (bT (xP s (n+1)))):=by rw[uh hf (by rw[zU];exact hb) rfl,Lt]
   refine⟨e',h',sZ ?_ r1,r2,r3,by rw[r4];simp⟩
   rw[n1]
   generalize bT (xP s n)=T at *
   generalize bT (xP s (n+1))=T2 at *
   simp (disch:=omega)only[go_sem,vh,AP.f127L0,ia,hg,st]
theorem wE {h:H} {id n:Nat} {v cs:List AV} (hf:h.floor≤id) (hv:v.length=n) (hc:cs.length=n) (hs:AV.aB v=true):tO h id 0 n v (some cs)=some (h.set id v):=by
 rw[Jt]
 have e:setFrom cs 0 v=v:=by
  have:=yG cs v [] [] (by omega)
  simpa using this
 simp [hf,hv,hc,hs,e,xj]
theorem KO (P:Nat→Bool):AV.aB (bT P)=true:=by
 have e:bT P=((List.range 256).map P).map .bool:=by unfold bT mY;rw[List.map_map];rfl
 rw[e]
 generalize (List.range 256).map P=l
 induction l with
 |nil=>rfl
 |cons b l ih=>simp [ih]
theorem PR (P:Nat→Bool):hR true 256 (bT P) 0=some (.agg (bT P)):=by
 simp only[hR,if_true]
 rw[if_pos (by rw[zU];omega),U1,uU (by rw[zU];omega)]
theorem Kl (h:H) (s:ByteArray) (hs:s.size<100000) (h7:∀i,i<s.size→yi s i<128):aQ AP.A 127 [.str s] h=some (.bO [.agg (bT (xP s s.size)),.bool true],h):=by
 obtain⟨h1,eh1⟩:∃g,g=h.dX.alloc (bT fun _=>false):=⟨_,rfl⟩
 have g1:h1.get h.next=some (bT (xP s 0)):=by rw[eh1,vk (by simp)];rfl
 obtain⟨e',h',r1,r2,r3,r4⟩:=Gv s hs h7 h.next s.size 0 h1 (by omega) g1 (by rw[eh1];simp)
 have r1':Lp AP.A [0,2,4] AP.f127L0 [(0,.str s),(2,.aC h.next 0),(4,.int .i64 0)] h1=some (.exit 0,e',h'):=r1
 clear r1
 obtain⟨h2,eh2⟩:∃g,g=h'.set h.next (bT (xP s s.size)):=⟨_,rfl⟩
 have st:tO h' h.next 0 256 (bT (xP s s.size)) (some (bT (xP s s.size)))=some h2:=by
  rw[wE (by rw[r4,eh1];simp) (zU _) (zU _) (KO _),eh2]
 have g2:h2.get h.next=some (bT (xP s s.size)):=by rw[eh2,vA rfl,r3];rfl
 have hn:h.dX.next=h.next:=rfl
 have rd:=PR (xP s s.size)
 refine tM (fn:=AP.f127) (h2:=h2) (e:=[(2,.aC h.next 0),(3,.bool true)]) (vs:=[.agg (bT (xP s s.size)),.bool true]) rfl rfl rfl ?_ ?_ ?_
 · generalize bT (xP s s.size)=T at *
   simp (disch:=omega)only[go_sem,AP.f127,H4,hn,←eh1,rR,r1',r2,r3,rd,st]
 · simp only[AP.f127,cL,mQ,mE,qz,g2,sS,rd,kU,ne_eq,Nat.reduceEqDiff,not_false_eq_true]
   rfl
 · show(fJ (snap h2.get h.next 15 true) [.agg (bT (xP s s.size)),.bool true]).bind _=_
   have m1:snap h2.get h.next 15 true (.agg (bT (xP s s.size)))=some (.agg (bT (xP s s.size))):=by
    unfold snap;rw[Kj];rfl
   simp only[fJ,m1];rfl
theorem KU (h:H) (id b:Nat) (P:Nat→Bool) (hg:h.get id=some (bT P)) (hb:b<256):aQ AP.A 132 [.aC id 0,.int .u8 b] h=some (.bool (P b),h):=by
 have ia:dc (.int .u8 b) 256=some b:=by rw[Qm (by omega)];congr 1
 have g:=Lr P hb
 refine tr (fn:=AP.f132) (h2:=h) (e:=[(4,.bool (P b))]) (vs:=[.bool (P b)]) rfl rfl rfl ?_ rfl
 generalize bT P=T at *
 simp (disch:=omega)only[go_sem,vh,AP.f132,ia,hg,g]
theorem H3 {s:ByteArray} {n:Nat} (hn:n≤s.size):nq (.str s) none (some (.int .i64 n))=some (.str (s.extract 0 n)):=JL hn
theorem JM {s:ByteArray} {n:Nat} (hn:n≤s.size):nq (.str s) (some (.int .i64 n)) none=some (.str (s.extract n s.size)):=by
 have:kb (.int .i64 n) s.size=some n:=Fl hn
 simp [nq,aA,this]
theorem BE {s:ByteArray} {a b i:Nat} (hb:b≤s.size) (hi:a+i<b):yi (s.extract a b) i=yi s (a+i):=by
 have e:(s.extract a b)[i]?=s[a+i]?:=by
  show(s.extract a b).data[i]?=s.data[a+i]?
  rw[ByteArray.data_extract,Array.getElem?_extract]
  have:s.data.size=s.size:=rfl
  rw[if_pos (by omega)]
 unfold yi;rw[e]
theorem AJ {s:ByteArray} {a b:Nat} (hb:b≤s.size):(s.extract a b).size=b-a:=by simp [ByteArray.size_extract];omega
theorem Gm (s:ByteArray):s.extract 0 s.size=s:=by
 apply ByteArray.ext
 rw[ByteArray.data_extract]
 exact Array.extract_size
theorem J0 (s:ByteArray) {n m:Nat} (hm:m≤n):(s.extract 0 n).extract 0 m=s.extract 0 m:=by
 apply ByteArray.ext
 rw[ByteArray.data_extract,ByteArray.data_extract,ByteArray.data_extract,Array.extract_extract]
 simp [hm]
theorem CH (id : Nat) (P : Nat → Bool) (h : H) (hg : h.get id = some (bT P)) : ∀ (n : Nat) (s : ByteArray), s.size = n → n < 100000 →
 ∃e' m,Lp AP.A [0,1] AP.f129L0 [(0,.str s),(1,.aC id 0)] h=some (.exit 0,e',h)∧look e' 0=.str (s.extract 0 m)∧m≤s.size∧(∀i,m≤i→i<s.size→P (yi s i)=true)∧(0<m→P (yi s (m-1))=false)
 | 0, s, hs, hn => by
   refine⟨[(0,.str s),(1,.aC id 0),(7,.bool false)],0,sY ?_, ?_,by omega,fun i h1 h2=>by omega,fun q=>by omega⟩
   · simp (disch:=omega)only[go_sem,vh,AP.f129L0]
   · show AV.str s=_
     congr 1
     have:=Gm s
     rw[hs]at this
     exact this.symm
 | n + 1, s, hs, hn => by
   have hb:=zo s n
   have k1:=KU h id (yi s n) P hg hb
   have n1:(s.size:Int)-1=(n:Int):=by omega
   have sl:=H3 (s:=s) (n:=n) (by omega)
   by_cases c:P (yi s n)=true
   · rw [c] at k1
     obtain⟨e',m,r1,r2,r3,r4,r5⟩:=CH id P h hg n (s.extract 0 n) (by rw[AJ (by omega)];omega) (by omega)
     rw[AJ (by omega)]at r3 r4
     refine⟨e',m,sZ ?_ r1, ?_,by omega,fun i h1 h2=> ?_,fun q=> ?_⟩
     · simp (disch:=omega)only[go_sem,vh,AP.f129L0,n1,k1,sl]
     · rw[r2];congr 1;exact J0 s r3
     · by_cases hi:i=n
       · rw[hi];exact c
       · have:=r4 i h1 (by omega)
         rwa [BE (by omega) (by omega),uK]at this
     · have:=r5 q
       rwa [BE (by omega) (by omega),uK]at this
   · have c':P (yi s n)=false:=by simpa using c
     rw[c']at k1
     refine⟨[(0,.str s),(1,.aC id 0),(15,.bool true)],s.size,sY ?_, ?_,uF _,fun i h1 h2=>by omega,fun q=>by rw[hs];exact c'⟩
     · simp (disch:=omega)only[go_sem,vh,AP.f129L0,n1,k1]
     · show AV.str s=_
       congr 1
       exact(Gm s).symm
theorem Nu (s:ByteArray) {n:Nat} (h:s.size=n+1):(s.extract 1 s.size).size=n:=by rw[AJ (uF _)];omega
theorem Dn (id : Nat) (P : Nat → Bool) (h : H) (hg : h.get id = some (bT P)) : ∀ (n : Nat) (s : ByteArray), s.size = n → n < 100000 → (0 < n → P (yi s (n - 1)) = false) →
 ∃e' r,Lp AP.A [0,1] AP.f128L0 [(0,.str s),(1,.aC id 0)] h=some (.exit 0,e',h)∧look e' 0=.str r∧(r.size=0↔n=0)
 | 0, s, hs, hn, hp => by
   refine⟨[(0,.str s),(1,.aC id 0),(7,.bool false)],s,sY ?_,rfl,by omega⟩
   simp (disch:=omega)only[go_sem,vh,AP.f128L0]
 | n + 1, s, hs, hn, hp => by
   have hb:=zo s 0
   have k1:=KU h id (yi s 0) P hg hb
   have sl:nq (.str s) (some (.int .i64 1)) none=some (.str (s.extract 1 s.size)):=JM (s:=s) (n:=1) (by omega)
   have ix:lT (.str s) (.int .i64 0)=some (.int .u8 (yi s 0:Nat)):=BF (by omega)
   by_cases c:P (yi s 0)=true
   · rw[c]at k1
     have hn0:n≠0:=fun e=>by subst e;have:=hp (by omega);simp only[uK,Nat.sub_self]at this;rw[c]at this;cases this
     obtain⟨e',r,r1,r2,r3⟩:=Dn id P h hg n (s.extract 1 s.size) (Nu s hs) (by omega) (fun q=>by
      rw[BE (uF _) (by omega),show 1+(n-1)=n+1-1 by omega];exact hp (by omega))
     refine⟨e',r,sZ ?_ r1,r2,by omega⟩
     clear hp
     simp (disch:=omega)only[go_sem,dt,df,Ae,AP.f128L0,k1,sl,ix,UU,U6]
   · have c':P (yi s 0)=false:=by simpa using c
     rw[c']at k1
     refine⟨[(0,.str s),(1,.aC id 0),(12,.bool true)],s,sY ?_,rfl,by omega⟩
     clear hp
     simp (disch:=omega)only[go_sem,dt,df,Ae,AP.f128L0,k1,sl,ix,UU,U6]
def Af (s:ByteArray):Bool:=(List.range s.size).all fun i=>okB (yi s i)
theorem Cw:Ko.size=39:=rfl
theorem Ls:bT (xP Ko Ko.size)=bT okB:=Qo
theorem Th (h:H) (s:ByteArray) (id:Nat) (P:Nat→Bool) (hg:h.get id=some (bT P)) (hs:s.size<100000) (hp:0<s.size→P (yi s (s.size-1))=false):∃r,aQ AP.A 128 [.str s,.aC id 0] h=some (.str r,h)∧(r.size=0↔s.size=0):=by
 obtain⟨e',r,r1,r2,r3⟩:=Dn id P h hg s.size s rfl hs hp
 refine⟨r,tr (fn:=AP.f128) (h2:=h) (e:=[(4,.str r)]) (vs:=[.str r]) rfl rfl rfl ?_ rfl,r3⟩
 clear hp
 simp only[go_sem,AP.f128,rR,r1,r2]
theorem Ti (h:H) (s:ByteArray) (id:Nat) (P:Nat→Bool) (hg:h.get id=some (bT P)) (hs:s.size<100000):
 ∃m,aQ AP.A 129 [.str s,.aC id 0] h=some (.str (s.extract 0 m),h)∧m≤s.size∧(∀i,m≤i→i<s.size→P (yi s i)=true)∧(0<m→P (yi s (m-1))=false):=by
 obtain⟨e',m,r1,r2,r3,r4,r5⟩:=CH id P h hg s.size s rfl hs
 refine⟨m,tr (fn:=AP.f129) (h2:=h) (e:=[(4,.str (s.extract 0 m))]) (vs:=[.str (s.extract 0 m)]) rfl rfl rfl ?_ rfl,r3,r4,r5⟩
 simp only[go_sem,AP.f129,rR,r1,r2]
theorem Em {a b:ByteArray} (h:a≠b):(a.data.toList==b.data.toList)=false:=by
 rw[beq_eq_false_iff_ne]
 intro e
 apply h
 apply ByteArray.ext
 exact Array.toList_inj.1 e
theorem Fs (a:ByteArray):(a.data.toList==a.data.toList)=true:=by simp
theorem P6 (h : H) (s : ByteArray) (h0 : 0 < s.size) (hs : s.size < 100000) : ∃ r, aQ AP.A 124 [.str s, .str Ko] h = some (.str r, h) ∧ (r.size = 0 ↔ Af s = true) := by
 have m1:=Kl h.dX Ko (by rw[Cw];omega) (by rw[Cw];decide+kernel)
 rw[Ls]at m1
 obtain⟨h1,eh1⟩:∃g,g=h.dX.alloc (bT fun _=>false):=⟨_,rfl⟩
 have hn:h.dX.next=h.next:=rfl
 have g1:h1.get h.next=some (bT fun _=>false):=by rw[eh1,vk (by simp)]
 obtain⟨h2,eh2⟩:∃g,g=h1.set h.next (bT okB):=⟨_,rfl⟩
 have st:tO h1 h.next 0 256 (bT okB) (some (bT fun _=>false))=some h2:=by
  rw[wE (by rw[eh1];simp) (zU _) (zU _) (KO _),eh2]
 have g2:h2.get h.next=some (bT okB):=by rw[eh2,vA rfl,g1];rfl
 obtain⟨m,a1,a2,a3,a4⟩:=Ti h2 s h.next okB g2 hs
 have sz:=AJ (s:=s) (a:=0) (b:=m) a2
 obtain⟨r,b1,b2⟩:=Th h2 (s.extract 0 m) h.next okB g2 (by omega) (fun q=>by
  rw[sz,Nat.sub_zero,BE a2 (by omega),uK];exact a4 (by omega))
 refine⟨r, ?_, ?_⟩
 · have e1:bp .eql (.str s) (.str ⟨#[]⟩)=some (.bool false):=by
    rw[yt,Em];intro e;rw[e]at h0;exact absurd h0 (by decide)
   have e2:bp .eql (.str Ko) (.str ⟨#[]⟩)=some (.bool false):=by
    rw[yt,Em];intro e;have:=Cw;rw[e]at this;exact absurd this (by decide)
   have l2:jc true (.str Ko)=some (.int .i64 39):=rfl
   refine tM (fn:=AP.f124) (h2:=h2) (e:=[(4,.str r)]) rfl rfl rfl ?_ rfl rfl
   clear a3 a4
   generalize bT okB=T at *
   generalize hT:(bT fun _=>false)=T0 at *
   have ba:∀e:Env,aX e (.alloc [.bool false,.bool false,.bool false,.bool false,.bool false,.bool false,.bool false,.bool false,.bool false,.bool false,.bool false,.bool false,.bool false,.bool false,.bool false,.bool false,.bool false,.bool false,.bool false,.bool false,.bool false,.bool false,.bool false,.bool false,.bool false,.bool false,.bool false,.bool false,.bool false,.bool false,.bool false,.bool false,.bool false,.bool false,.bool false,.bool false,.bool false,.bool false,.bool false,.bool false,.bool false,.bool false,.bool false,.bool false,.bool false,.bool false,.bool false,.bool false,.bool false,.bool false,.bool false,.bool false,.bool false,.bool false,.bool false,.bool false,.bool false,.bool false,.bool false,.bool false,.bool false,.bool false,.bool false,.bool false,.bool false,.bool false,.bool false,.bool false,.bool false,.bool false,.bool false,.bool false,.bool false,.bool false,.bool false,.bool false,.bool false,.bool false,.bool false,.bool false,.bool false,.bool false,.bool false,.bool false,.bool false,.bool false,.bool false,.bool false,.bool false,.bool false,.bool false,.bool false,.bool false,.bool false,.bool false,.bool false,.bool false,.bool false,.bool false,.bool false,.bool false,.bool false,.bool false,.bool false,.bool false,.bool false,.bool false,.bool false,.bool false,.bool false,.bool false,.bool false,.bool false,.bool false,.bool false,.bool false,.bool false,.bool false,.bool false,.bool false,.bool false,.bool false,.bool false,.bool false,.bool false,.bool false,.bool false,.bool false,.bool false,.bool false,.bool false,.bool false,.bool false,.bool false,.bool false,.bool false,.bool false,.bool false,.bool false,.bool false,.bool false,.bool false,.bool false,.bool false,.bool false,.bool false,.bool false,.bool false,.bool false,.bool false,.bool false,.bool false,.bool false,.bool false,.bool false,.bool false,.bool false,.bool false,.bool false,.bool false,.bool false,.bool false,.bool false,.bool false,.bool false,.bool false,.bool false,.bool false,.bool false,.bool false,.bool false,.bool false,.bool false,.bool false,.bool false,.bool false,.bool false,.bool false,.bool false,.bool false,.bool false,.bool false,.bool false,.bool false,.bool false,.bool false,.bool false,.bool false,.bool false,.bool false,.bool false,.bool false,.bool false,.bool false,.bool false,.bool false,.bool false,.bool false,.bool false,.bool false,.bool false,.bool false,.bool false,.bool false,.bool false,.bool false,.bool false,.bool false,.bool false,.bool false,.bool false,.bool false,.bool false,.bool false,.bool false,.bool false,.bool false,.bool false,.bool false,.bool false,.bool false,.bool false,.bool false,.bool false,.bool false,.bool false,.bool false,.bool false,.bool false,.bool false,.bool false,.bool false,.bool false,.bool false,.bool false,.bool false,.bool false,.bool false,.bool false,.bool false,.bool false,.bool false,.bool false,.bool false,.bool false,.bool false,.bool false,.bool false,.bool false,.bool false,.bool false,.bool false,.bool false,.bool false,.bool false,.bool false])=some (T0,fun i=>.aC i 0):=fun e=>by rw[H4,hT]
   simp (disch:=omega)only[go_sem,AP.f124,ba,hn,←eh1,e1,e2,l2,Nt,m1,g1,st,a1,b1]
 · rw [b2, sz]
   unfold Af
   rw[Vd]
   constructor
   · intro q i hi
     exact a3 i (by omega) (List.mem_range.1 hi)
   · intro q
     by_cases hm:m=0
     · omega
     · have:=a4 (by omega)
       rw[q (m-1) (List.mem_range.2 (by omega))]at this
       cases this
def Im:ByteArray:=⟨#[46]⟩
def EN:ByteArray:=⟨#[46,46]⟩
def wo (s:ByteArray):Bool:=decide (1≤s.size)&&(decide (s.size≤8)&&(Af s&&(!(s.data.toList==Im.data.toList)&& !(s.data.toList==EN.data.toList))))
theorem IQ (h : H) (s : ByteArray) (hs : s.size < 1125899906842624) : aQ AP.A 121 [.str s] h = some (.bool (wo s), h) := by
 refine tM (fn:=AP.f121) (h2:=h.dX) (e:=[(2,.bool (wo s))]) rfl rfl rfl ?_ rfl rfl
 unfold wo
 by_cases c1:1≤s.size
 · by_cases c2:s.size≤8
   · obtain⟨r,t1,t2⟩:=P6 h.dX s (by omega) (by omega)
     have t1':aQ AP.A 124 [.str s,.str ⟨#[97,98,99,100,101,102,103,104,105,106,107,108,109,110,111,112,113,114,115,116,117,118,119,120,121,122,48,49,50,51,52,53,54,55,56,57,46,45,95]⟩] h.dX=some (.str r,h.dX):=t1
     have e1:bp .eql (.str r) (.str ⟨#[]⟩)=some (.bool (Af s)):=by
      rw[yt]
      by_cases q:Af s=true
      · rw[q]
        have:r=⟨#[]⟩:=by
         apply ByteArray.ext
         exact Array.size_eq_zero_iff.1 (t2.2 q)
        rw[this,Fs]
      · have q':Af s=false:=by simpa using q
        rw[q',Em]
        intro e
        rw[e]at t2
        exact q (t2.1 rfl)
     have e2:bp .neq (.str s) (.str ⟨#[46]⟩)=some (.bool (!(s.data.toList==Im.data.toList))):=AK _ _
     have e3:bp .neq (.str s) (.str ⟨#[46,46]⟩)=some (.bool (!(s.data.toList==EN.data.toList))):=AK _ _
     clear t1 t2
     generalize (!(s.data.toList==Im.data.toList))=B2 at *
     generalize (!(s.data.toList==EN.data.toList))=B3 at *
     generalize Af s=B1 at *
     cases B1<;>cases B2<;>cases B3<;>simp (disch:=omega)only[go_sem,vh,AP.f121,t1',e1,e2,e3]
   · simp (disch:=omega)only[go_sem,vh,AP.f121]
 · simp (disch:=omega)only[go_sem,vh,AP.f121]
theorem Gy (b:Nat):okB b=true↔97≤b∧b≤122∨48≤b∧b≤57∨b=46∨b=45∨b=95:=by simp [okB]
def xY (s:ByteArray):Nat→Nat→Bool
 |0,_=>true
 |n+1,i=>okB (yi s i)&&xY s n (i+1)
theorem BN (s:ByteArray):∀n i,xY s n i=(List.range n).all fun j=>okB (yi s (i+j))
 |0,_=>rfl
 | n + 1, i => by
   rw[xY,BN s n (i+1),List.range_succ_eq_map,Vl,List.all_map]
   simp only[Vg]
   congr 1
   refine Vi (fun f=>(List.range n).all f) ?_
   funext j
   simp only[Function.comp,Nat.succ_eq_add_one]
   rw[show i+(j+1)=i+1+j by omega]
theorem Gx (s : ByteArray) (hs : s.size < 100000) (h : H) : ∀ (n i : Nat), i + n = s.size →
 (∃e',Lp AP.A [0,3] AP.f173L0 [(0,.str s),(3,.int .i64 i)] h=some (.exit 0,e',h)∧xY s n i=true)∨
 (∃e',Lp AP.A [0,3] AP.f173L0 [(0,.str s),(3,.int .i64 i)] h=some (.ret,e',h)∧look e' 2=.bool false∧xY s n i=false)
 | 0, i, hi => by
   left
   refine⟨[(0,.str s),(3,.int .i64 i),(24,.bool false)],sY ?_,rfl⟩
   simp (disch:=omega)only[go_sem,vh,AP.f173L0]
 | n + 1, i, hi => by
   have hb:=zo s i
   have n1:((i+1:Nat):Int)=(i:Int)+1:=by omega
   have ix:lT (.str s) (.int .i64 i)=some (.int .u8 (yi s i:Nat)):=by rw[BF (by omega),xc]
   by_cases c:okB (yi s i)=true
   · have e:xY s (n+1) i=xY s n (i+1):=by simp [xY,c]
     rw[e]
     have ih:=Gx s hs h n (i+1) (by omega)
     rw[Gy]at c
     generalize yi s i=b at *
     have step:aK (aQ AP.A) bz AP.f173L0 (ax [(0,.str s),(3,.int .i64 i)] [0,3]) h=some (.normal,[(0,.str s),(3,.int .i64 ((i:Int)+1))],h):=by
      clear ih e
      rcases c with c|c|c|c|c
      · simp (disch:=omega)only[go_sem,vh,AP.f173L0,ix]
      · simp (disch:=omega)only[go_sem,vh,AP.f173L0,ix]
      · simp (disch:=omega)only[go_sem,vh,AP.f173L0,ix]
      · simp (disch:=omega)only[go_sem,vh,AP.f173L0,ix]
      · simp (disch:=omega)only[go_sem,vh,AP.f173L0,ix]
     rw[n1]at ih
     rcases ih with ⟨e',r1,r2⟩|⟨e',r1,r2,r3⟩
     · exact .inl ⟨e',sZ step r1,r2⟩
     · exact .inr ⟨e',sZ step r1,r2,r3⟩
   · right
     refine⟨[(2,.bool false)],tC ?_,rfl,by simp [xY,c]⟩
     rw[Gy]at c
     generalize yi s i=b at *
     have c1:¬(97≤b∧b≤122):=by omega
     have c2:¬(48≤b∧b≤57):=by omega
     have c3:¬b=46:=by omega
     have c4:¬b=45:=by omega
     have c5:¬b=95:=by omega
     clear c
     by_cases d1:b<97
     · by_cases d2:b<48
       · clear c1 c2;simp (disch:=omega)only[go_sem,vh,AP.f173L0,ix]
       · have:57<b:=by omega
         clear c1 c2;simp (disch:=omega)only[go_sem,vh,AP.f173L0,ix]
     · have:122<b:=by omega
       have d2:¬b<48:=by omega
       clear c1 c2;simp (disch:=omega)only[go_sem,vh,AP.f173L0,ix]
theorem Kn (h : H) (s : ByteArray) (hs : s.size < 1125899906842624) : aQ AP.A 173 [.str s] h = some (.bool (wo s), h) := by
 have e2:bp .eql (.str s) (.str ⟨#[46]⟩)=some (.bool (s.data.toList==Im.data.toList)):=yt _ _
 have e3:bp .eql (.str s) (.str ⟨#[46,46]⟩)=some (.bool (s.data.toList==EN.data.toList)):=yt _ _
 unfold wo
 generalize (s.data.toList==Im.data.toList)=B2 at *
 generalize (s.data.toList==EN.data.toList)=B3 at *
 by_cases c1:s.size<1
 · refine tM (fn:=AP.f173) (h2:=h.dX) (e:=[(2,.bool false)]) rfl rfl rfl ?_ rfl (by rw[UQ (show¬1≤s.size by omega)];rfl)
   simp (disch:=omega)only[go_sem,vh,AP.f173]
 by_cases c2:8<s.size
 · refine tM (fn:=AP.f173) (h2:=h.dX) (e:=[(2,.bool false)]) rfl rfl rfl ?_ rfl (by rw[UQ (show¬s.size≤8 by omega),UZ,U3];rfl)
   simp (disch:=omega)only[go_sem,vh,AP.f173]
 rw[US (show 1≤s.size by omega),US (show s.size≤8 by omega),U7,U7]
 cases B2 with
 | true =>
   refine tM (fn:=AP.f173) (h2:=h.dX) (e:=[(2,.bool false)]) rfl rfl rfl ?_ rfl (by rw[Bool.not_true,UZ,U3];rfl)
   simp (disch:=omega)only[go_sem,vh,AP.f173,e2]
 | false =>
   cases B3 with
   | true =>
     refine tM (fn:=AP.f173) (h2:=h.dX) (e:=[(2,.bool false)]) rfl rfl rfl ?_ rfl (by rw[Bool.not_true,U3,U3];rfl)
     simp (disch:=omega)only[go_sem,vh,AP.f173,e2,e3]
   | false =>
     have ea:Af s=xY s s.size 0:=by rw[BN];simp [Af]
     rw[ea]
     rcases Gx s (by omega) h.dX s.size 0 (by omega)with ⟨e',r1,r2⟩|⟨e',r1,r2,r3⟩
     · have r1':Lp AP.A [0,3] AP.f173L0 [(0,.str s),(3,.int .i64 0)] h.dX=some (.exit 0,e',h.dX):=r1
       clear r1
       rw[r2]
       refine tM (fn:=AP.f173) (h2:=h.dX) (e:=[(2,.bool true)]) rfl rfl rfl ?_ rfl rfl
       simp (disch:=omega)only[go_sem,vh,AP.f173,e2,e3,rR,r1']
     · have r1':Lp AP.A [0,3] AP.f173L0 [(0,.str s),(3,.int .i64 0)] h.dX=some (.ret,e',h.dX):=r1
       clear r1
       rw[r3]
       refine tM (fn:=AP.f173) (h2:=h.dX) (e:=e') (vs:=[.bool false]) rfl rfl rfl ?_ (by simp only[AP.f173,cL,mQ,r2];rfl) rfl
       simp (disch:=omega)only[go_sem,vh,AP.f173,e2,e3,rR,r1']
def K5 (s:ByteArray) (i j:Nat):Nat→Nat→Nat
 |0,k=>k
 |f+1,k=>if k<258∧i+k<s.size∧yi s (i+k)=yi s (j+k)then K5 s i j f (k+1)else k
def same (s:ByteArray) (i j:Nat):Nat:=K5 s i j 258 0
structure Tok where
 lit:Int
 len:Int
 Uk:Int
deriving DecidableEq
def Ext (h g:H):Prop:=∀id c,h.get id=some c→g.get id=some c
theorem Ext.refl (h:H):Ext h h:=fun _ _ q=>q
theorem Ext.trans {a b c:H} (x:Ext a b) (y:Ext b c):Ext a c:=fun i d q=>y i d (x i d q)
theorem Ext.alloc {a h:H} (x:Ext a h) (cs:List AV):Ext a (h.alloc cs):=fun i d q=>by
 have:=h.lt _ _ (x i d q)
 rw[H.aV,if_neg (by omega)];exact x i d q
theorem Ext.set {a h:H} (x:Ext a h) {id:Nat} (hid:a.next≤id) (cs:List AV):Ext a (h.set id cs):=fun i d q=>by
 have:=a.lt _ _ q
 rw[H.dE,if_neg (by omega)];exact x i d q
def wQ (n:Int):Bool:=decide (0≤n)&&decide (n≤1048576)
theorem Ge (h:H) (n:Int):aQ AP.A 119 [.int .i64 n] h=some (.bool (wQ n),h):=by
 refine tM (fn:=AP.f119) (h2:=h.dX) (e:=[(2,.bool (wQ n))]) rfl rfl rfl ?_ rfl rfl
 unfold wQ
 by_cases c1:0≤n<;>by_cases c2:n≤1048576<;>simp (disch:=omega)only[go_sem,vh,AP.f119]
def vW (n:Int):Bool:=decide (0≤n)&&decide (n<4)
theorem Cv (h:H) (n:Int):aQ AP.A 120 [.int .i64 n] h=some (.bool (vW n),h):=by
 refine tM (fn:=AP.f120) (h2:=h.dX) (e:=[(2,.bool (vW n))]) rfl rfl rfl ?_ rfl rfl
 unfold vW
 by_cases c1:0≤n<;>by_cases c2:n<4<;>simp (disch:=omega)only[go_sem,vh,AP.f120]
def GR (v:AV):Bool:=match v with| .int .i64 n=> !wQ n|_=>false
theorem HK (h:H) (n:Int):aQ AP.A 123 [.int .i64 n] h=some (.bool (!wQ n),h):=by
 have k1:=Ge h.dX n
 refine tM (fn:=AP.f123) (h2:=h.dX) (e:=[(2,.bool (!wQ n))]) rfl rfl rfl ?_ rfl rfl
 simp (disch:=omega)only[go_sem,vh,AP.f123,k1]
def xo (l:List Int):Bool:=decide (l.length=4)&&l.all wQ
theorem Bj:∀l:List Int,(ints l).any GR= !l.all wQ
 |[]=>rfl
 | n :: l => by
   have:=Bj l
   simp only[ints,U5,List.any_cons,Vl,Bool.not_and]at *
   rw[this];rfl
theorem GW (h:H) (v:AV) (l:List Int) (rd:Rd h v (ints l)) (hl:l.length<1125899906842624):aQ AP.A 117 [v] h=some (.bool (xo l),h):=by
 have rd':=rd.mono (vv h)
 have ln:=rd'.len
 rw[pt]at ln
 simp only[I]at ln
 refine tM (fn:=AP.f117) (h2:=h.dX) (e:=[(2,.bool (xo l))]) rfl rfl rfl ?_ rfl rfl
 unfold xo
 by_cases c:l.length=4
 · have k1:=zW (fv:=.fn 123 [] []) GR (fun x hx g=>by
    obtain⟨n,hn,rfl⟩:=U8.1 hx
    rw[nv];exact HK g n) (by simp;omega) h.dX rd'
   rw[Bj]at k1
   have c':(l.length:Int)=4:=by omega
   simp (disch:=omega)only[go_sem,vh,AP.f117,ln,k1,Bool.not_not]
 · have c':¬(l.length:Int)=4:=by omega
   simp (disch:=omega)only[go_sem,vh,AP.f117,ln]
theorem Rd.wI {h:H} {v:AV} {l:List Int} (r:Rd h v (ints l)):∃ad:Int→AV,(∀i:Int,0≤i∧i<l.length→fU 1 v (.int .i64 i)=some (ad i))∧
 ∀g:H,Ext h g→∀(i:Nat) (n:Int),l[i]?=some n→bS false 1 (ad i) g=some (.int .i64 n):=by
 have r2:=r.Ef
 rw[pt]at r2
 obtain⟨ad,a1,_,_,a3⟩:=r2.at_
 refine⟨fun i=>ad i 0,a1,fun g hg i n hn=> ?_⟩
 have hi:i<l.length:=(uB.1 hn).1
 refine(a3 g hg).1 i 0 _ ⟨by omega,by omega⟩ ?_
 rw[xc,Vk,Vg]
 exact sG hn
theorem GX {v:AV} {l:List Int} (hl:l.length<1125899906842624) (h:H) (rd:Rd h v (ints l)):∀(q p:List Int),l=p++q→
 (∃e',Lp AP.A [0,3] AP.f172L0 [(0,v),(3,.int .i64 p.length)] h=some (.exit 0,e',h)∧look e' 0=v∧q.all wQ=true)∨
 (∃e',Lp AP.A [0,3] AP.f172L0 [(0,v),(3,.int .i64 p.length)] h=some (.ret,e',h)∧look e' 2=.bool false∧q.all wQ=false)
 | [], p, hp => by
   left
   have ln:=rd.len
   rw[pt]at ln
   simp only[I]at ln
   rw[UX]at hp;subst hp
   refine⟨[(0,v),(3,.int .i64 l.length),(7,.bool false)],sY ?_,rfl,rfl⟩
   simp (disch:=omega)only[go_sem,vh,AP.f172L0,ln]
 | n :: q, p, hp => by
   have ln:=rd.len
   rw[pt]at ln
   simp only[I]at ln
   have hlen:l.length=p.length+(q.length+1):=by rw[hp];simp
   have hv:l[p.length]?=some n:=by rw[hp];simp
   obtain⟨ad,a1,a2⟩:=rd.wI
   have b1:=a1 p.length ⟨by omega,by omega⟩
   have b2:=a2 h (Ext.refl h) _ _ hv
   have w1:((p.length:Int)+1)=(((p++[n]).length:Nat):Int):=by simp
   have ih:=GX hl h rd q (p++[n]) (by rw[hp];simp)
   rw[←w1]at ih
   rw[Vl]
   clear a1 a2
   by_cases c1:n<0
   · right
     refine⟨[(2,.bool false)],tC ?_,rfl,by simp [wQ];omega⟩
     clear ih w1
     simp (disch:=omega)only[go_sem,vh,AP.f172L0,ln,b1,b2]
   by_cases c2:1048576<n
   · right
     refine⟨[(2,.bool false)],tC ?_,rfl,by simp [wQ];omega⟩
     clear ih w1
     simp (disch:=omega)only[go_sem,vh,AP.f172L0,ln,b1,b2]
   have cn:wQ n=true:=by simp [wQ];omega
   rw[cn,U7]
   have step:aK (aQ AP.A) bz AP.f172L0 (ax [(0,v),(3,.int .i64 p.length)] [0,3]) h=some (.normal,[(0,v),(3,.int .i64 ((p.length:Int)+1))],h):=by
    clear ih w1
    simp (disch:=omega)only[go_sem,vh,AP.f172L0,ln,b1,b2]
   rcases ih with ⟨e',r1,r2,r3⟩|⟨e',r1,r2,r3⟩
   · exact .inl ⟨e',sZ step r1,r2,r3⟩
   · exact .inr ⟨e',sZ step r1,r2,r3⟩
theorem Qa (h:H) (v:AV) (l:List Int) (rd:Rd h v (ints l)) (hl:l.length<1125899906842624):aQ AP.A 172 [v] h=some (.bool (xo l),h):=by
 have rd':=rd.mono (vv h)
 have ln:=rd'.len
 rw[pt]at ln
 simp only[I]at ln
 unfold xo
 rcases GX hl h.dX rd' l [] rfl with ⟨e',r1,r2,r3⟩|⟨e',r1,r2,r3⟩
 · have r1':Lp AP.A [0,3] AP.f172L0 [(0,v),(3,.int .i64 0)] h.dX=some (.exit 0,e',h.dX):=r1
   clear r1
   rw[r3,Bool.and_true]
   refine tM (fn:=AP.f172) (h2:=h.dX) (e:=[(2,.bool (decide (l.length=4)))]) rfl rfl rfl ?_ rfl rfl
   by_cases c:l.length=4
   · have c':(l.length:Int)=4:=by omega
     simp (disch:=omega)only[go_sem,vh,AP.f172,ln,rR,r1',r2]
   · have c':¬(l.length:Int)=4:=by omega
     simp (disch:=omega)only[go_sem,vh,AP.f172,ln,rR,r1',r2]
 · have r1':Lp AP.A [0,3] AP.f172L0 [(0,v),(3,.int .i64 0)] h.dX=some (.ret,e',h.dX):=r1
   clear r1
   rw[r3,U3]
   refine tM (fn:=AP.f172) (h2:=h.dX) (e:=e') (vs:=[.bool false]) rfl rfl rfl ?_ (by simp only[AP.f172,cL,mQ,r2];rfl) rfl
   simp (disch:=omega)only[go_sem,vh,AP.f172,ln,rR,r1',r2]
structure vQ where
 name:ByteArray
 gone:Bool
 vec:List Int
 vG:Int
 node:Int
 method:Int
 packed:ByteArray
 size:Int
 yI:Int
def vq (e:vQ) (v:AV):List AV:=[.str e.name,.bool e.gone,v,.int .i64 e.vG,.int .i64 e.node,.int .i64 e.method,.str e.packed,.int .i64 e.size,.int .i64 e.yI]
def wg (e:vQ):Bool:=xo e.vec&&(decide (1≤e.vG)&&(wQ e.vG&&vW e.node))
structure PE (h:H) (p:AV) (cs:List AV):Prop where
 nil:∀g:H,jz g p=some (p,g)
 th:∃q:Nat→AV,(∀k,fi k p=some (q k))∧∀g:H,Ext h g→∀(k:Nat) (c:AV),cs[k]?=some c→bS false 1 (q k) g=some c
theorem IC (h:H) (p v:AV) (e:vQ) (pe:PE h p (vq e v)) (rd:Rd h v (ints e.vec)) (hl:e.vec.length<1125899906842624):aQ AP.A 112 [p] h=some (.bool (wg e),h):=by
 have nl:=pe.nil
 obtain⟨q,f1,f2⟩:=pe.th
 have l2:=f2 h (Ext.refl h) 2 v rfl
 have l3:=f2 h (Ext.refl h) 3 _ rfl
 have l4:=f2 h (Ext.refl h) 4 _ rfl
 have k1:=GW h v e.vec rd hl
 have k2:=Ge h e.vG
 have k3:=Cv h e.node
 have c2:wQ e.vG=true→1≤e.vG→True:=fun _ _=>trivial
 refine tr (fn:=AP.f112) (h2:=h) (e:=[(2,.bool (wg e))]) (vs:=[.bool (wg e)]) rfl rfl rfl ?_ rfl
 unfold wg
 clear pe f2 rd c2
 generalize xo e.vec=B1 at *
 generalize wQ e.vG=B2 at *
 generalize vW e.node=B3 at *
 by_cases c1:1≤e.vG<;>cases B1<;>cases B2<;>cases B3<;>simp (disch:=omega)only[go_sem,vh,AP.f112,nl,f1,l2,l3,l4,k1,k2,k3]
theorem Gq (h : H) (v : AV) (e : vQ) (rd : Rd h v (ints e.vec)) (hv : v.sc = true) (hl : e.vec.length < 1125899906842624) : aQ AP.A 169 [.agg (vq e v)] h = some (.bool (wg e), h) := by
 have hx:Ext h.dX (h.dX.alloc (vq e v)):=(Ext.refl _).alloc _
 have k1:=Qa (h.dX.alloc (vq e v)) v e.vec (rd.mono fun id c q=>hx id c q) hl
 have g1:(h.dX.alloc (vq e v)).get h.next=some (vq e v):=vk rfl
 have hn:h.dX.next=h.next:=rfl
 refine tM (fn:=AP.f169) (h2:=h.dX.alloc (vq e v)) (e:=[(2,.bool (wg e))]) rfl rfl rfl ?_ rfl rfl
 have hb:∀ev:Env,look ev 0=.agg (vq e v)→aX ev (.box 9 (.t 0))=some (vq e v,fun i=>.aC i 0):=by
  intro ev q
  simp only[aX,rU,q,kJ]
  rw[if_pos ⟨rfl,by simp [vq,hv]⟩]
 obtain⟨h1,eh1⟩:∃g,g=h.dX.alloc (vq e v):=⟨_,rfl⟩
 rw[←eh1]at k1 g1 ⊢
 have hcnt:wg e=(xo e.vec&&(decide (1≤e.vG)&&(decide (e.vG≤1048576)&&(decide (0≤e.node)&&decide (e.node<4))))):=by
  unfold wg wQ vW
  by_cases c1:1≤e.vG
  · rw[US (show 0≤e.vG by omega)];simp
  · simp [c1]
 rw[hcnt]
 clear hcnt rd hx
 generalize xo e.vec=B1 at *
 simp only[mN,mO,AP.f169]
 rw[rF,rD,sP,iV,hb _ rfl]
 simp only[mb,hn,←eh1]
 simp only[vq]at g1
 cases B1 with
 |false=>simp (disch:=omega)only[go_sem,vh,k1,g1]
 | true =>
   by_cases c1:1≤e.vG
   · by_cases c2:e.vG≤1048576
     · by_cases c3:0≤e.node
       · by_cases c4:e.node<4<;>simp (disch:=omega)only[go_sem,vh,k1,g1]
       · simp (disch:=omega)only[go_sem,vh,k1,g1]
     · simp (disch:=omega)only[go_sem,vh,k1,g1]
   · simp (disch:=omega)only[go_sem,vh,k1,g1]
def Ch (s:ByteArray):Bool:=s.data.toList==(⟨#[]⟩:ByteArray).data.toList
def wV (e:vQ):Bool:=
 if e.gone then decide (e.method=0)&&(Ch e.packed&&(decide (e.size=0)&&decide (e.yI=0)))
 else(decide (0≤e.size)&&(decide (e.size≤300)&&y9 e.yI))&&(decide (e.method=0)&&decide ((e.packed.size:Int)=e.size)||decide (e.method=8)&&decide (e.packed.size≤300))
theorem Hl (h : H) (p v : AV) (e : vQ) (pe : PE h p (vq e v)) : aQ AP.A 122 [p] h = some (.bool (wV e), h) := by
 have nl:=pe.nil
 obtain⟨q,f1,f2⟩:=pe.th
 have l1:=f2 h (Ext.refl h) 1 _ rfl
 have l5:=f2 h (Ext.refl h) 5 _ rfl
 have l6:=f2 h (Ext.refl h) 6 _ rfl
 have l7:=f2 h (Ext.refl h) 7 _ rfl
 have l8:=f2 h (Ext.refl h) 8 _ rfl
 have k1:=Kd h e.yI
 have e1:bp .eql (.str e.packed) (.str ⟨#[]⟩)=some (.bool (Ch e.packed)):=yt _ _
 refine tr (fn:=AP.f122) (h2:=h) (e:=[(2,.bool (wV e))]) (vs:=[.bool (wV e)]) rfl rfl rfl ?_ rfl
 unfold wV
 clear pe f2
 generalize Ch e.packed=B1 at *
 generalize y9 e.yI=B2 at *
 cases hg:e.gone with
 | true =>
   rw[hg]at l1
   rw[if_pos rfl]
   by_cases c1:e.method=0
   · cases B1 with
     |false=>simp (disch:=omega)only[go_sem,vh,AP.f122,nl,f1,l1,l5,l6,l7,l8,e1]
     | true =>
       by_cases c2:e.size=0
       · by_cases c3:e.yI=0<;>simp (disch:=omega)only[go_sem,vh,AP.f122,nl,f1,l1,l5,l6,l7,l8,e1]
       · simp (disch:=omega)only[go_sem,vh,AP.f122,nl,f1,l1,l5,l6,l7,l8,e1]
   · simp (disch:=omega)only[go_sem,vh,AP.f122,nl,f1,l1,l5,l6,l7,l8,e1]
 | false =>
   rw[hg]at l1
   rw[if_neg (by decide)]
   by_cases c1:e.method=0
   · have c1':¬e.method=8:=by omega
     by_cases c2:(e.packed.size:Int)=e.size
     · by_cases c3:0≤e.size
       · by_cases c4:e.size≤300
         · cases B2<;>simp (disch:=omega)only[go_sem,vh,AP.f122,nl,f1,l1,l5,l6,l7,l8,e1,k1]
         · simp (disch:=omega)only[go_sem,vh,AP.f122,nl,f1,l1,l5,l6,l7,l8,e1,k1]
       · exfalso;omega
     · simp (disch:=omega)only[go_sem,vh,AP.f122,nl,f1,l1,l5,l6,l7,l8,e1,k1]
   · by_cases c0:e.method=8
     · by_cases c2:e.packed.size≤300
       · by_cases c3:0≤e.size
         · by_cases c4:e.size≤300
           · cases B2<;>simp (disch:=omega)only[go_sem,vh,AP.f122,nl,f1,l1,l5,l6,l7,l8,e1,k1]
           · simp (disch:=omega)only[go_sem,vh,AP.f122,nl,f1,l1,l5,l6,l7,l8,e1,k1]
         · simp (disch:=omega)only[go_sem,vh,AP.f122,nl,f1,l1,l5,l6,l7,l8,e1,k1]
       · simp (disch:=omega)only[go_sem,vh,AP.f122,nl,f1,l1,l5,l6,l7,l8,e1,k1]
     · simp (disch:=omega)only[go_sem,vh,AP.f122,nl,f1,l1,l5,l6,l7,l8,e1,k1]
def xR (prev:Option vQ) (e:vQ):Bool:=wo e.name&&((match prev with|none=>true|some p=>Op.bytesLess p.name.toList e.name.toList)&&(wg e&&wV e))
theorem Aq (e:vQ):xR none e=(wo e.name&&(wg e&&wV e)):=by simp [xR]
theorem DY (p e:vQ):xR (some p) e=(wo e.name&&(Op.bytesLess p.name.toList e.name.toList&&(wg e&&wV e))):=rfl
def xi:Option vQ→List vQ→Bool
 |_,[]=>true
 |p,e::r=>xR p e&&xi (some e) r
abbrev vF:=vQ×AV
def Nr (x:vF):List AV:=vq x.1 x.2
def vD (l:List vF):List AV:=l.flatMap Nr
theorem Ar (x:vF):(Nr x).length=9:=rfl
theorem yO (l:List vF):(vD l).length=l.length* 9:=FT Ar l
structure wS (h:H) (x:vF):Prop where
 vec:Rd h x.2 (ints x.1.vec)
 vl:x.1.vec.length<1125899906842624
 nl:x.1.name.size<1125899906842624
 pl:x.1.packed.size<1125899906842624
theorem wS.mono {h g:H} {x:vF} (o:wS h x) (e:Ext h g):wS g x:=⟨o.vec.mono fun i c q=>e i c q,o.vl,o.nl,o.pl⟩
theorem G3 {v : AV} {l : List vF} (hn : l.length < 1125899906842624) (h : H) (b : Nat) (hb : h.get b = some [v]) (rd : wO 9 h v l.length (vD l)) (hv : ∀ x ∈ l, wS h x) : ∀ (q p : List vF), l = p ++ q →
 (∃e',Lp AP.A [1,7,8] AP.f113L0 [(1,.aC b 0),(7,.int .i64 l.length),(8,.int .i64 p.length)] h=some (.exit 0,e',h)∧look e' 1=.aC b 0∧xi (p.getLast?.map (·.1)) (q.map (·.1))=true)∨
 (∃e',Lp AP.A [1,7,8] AP.f113L0 [(1,.aC b 0),(7,.int .i64 l.length),(8,.int .i64 p.length)] h=some (.ret,e',h)∧look e' 2=.bool false∧xi (p.getLast?.map (·.1)) (q.map (·.1))=false)
 | [], p, hp => by
   left
   rw[UX]at hp;subst hp
   refine⟨[(1,.aC b 0),(7,.int .i64 l.length),(8,.int .i64 l.length),(9,.bool false)],sY ?_,rfl,rfl⟩
   simp (disch:=omega)only[go_sem,vh,AP.f113L0]
 | x :: q, p, hp => by
   have hlen:l.length=p.length+(q.length+1):=by rw[hp];simp
   have hx:l[p.length]?=some x:=by rw[hp];simp
   have ho:=hv x (by rw[hp];simp)
   obtain⟨ad,a1,a2,a4,a3⟩:=rd.at_
   have hI:(0:Int)≤(p.length:Int)∧(p.length:Int)<l.length:=⟨by omega,by omega⟩
   have b1:=a1 _ hI
   have pe:PE h (ad p.length 0) (vq x.1 x.2):=by
    refine⟨fun g=>a4 _ 0 g hI,fun k=>ad p.length (0+k),fun k=>a2 _ 0 k hI,fun g hg k c hc=> ?_⟩
    have hk:k<9:=(uB.1 hc).1
    refine(a3 g hg).1 _ _ _ hI ?_
    rw[xc,uK,show vD l=l.flatMap Nr from rfl,zu Ar hx hk];exact hc
   have k1:=IQ h x.1.name ho.nl
   have k2:=IC h _ _ x.1 pe ho.vec ho.vl
   have k3:=Hl h _ _ x.1 pe
   have nl:=pe.nil
   obtain⟨qq,f1,f2⟩:=pe.th
   have l0:=f2 h (Ext.refl h) 0 _ rfl
   have ih:=G3 hn h b hb rd hv q (p++[x]) (by rw[hp];simp)
   have w1:(((p++[x]).length:Nat):Int)=(p.length:Int)+1:=by simp
   rw[w1,List.getLast?_concat]at ih
   have step : aK (aQ AP.A) bz AP.f113L0 (ax [(1, .aC b 0), (7, .int .i64 l.length), (8, .int .i64 p.length)] [1, 7, 8]) h = if xR (p.getLast?.map (·.1)) x.1 then some (.normal, [(1, .aC b 0), (7, .int .i64 l.length), (8, .int .i64 ((p.length : Int) + 1))], h) else some (.ret, [(2, .bool false)], h) := by
    cases hl:p.getLast? with
    | none =>
      have hp0:p=[]:=List.getLast?_eq_none_iff.1 hl
      have hp1:p.length=0:=by rw[hp0];rfl
      clear ih w1 pe f2 a1 a2 a3 a4 hl hv hp ho hx
      rw[U6,Aq]
      generalize wo x.1.name=B1 at *
      generalize wg x.1=B3 at *
      generalize wV x.1=B4 at *
      cases B1 with
      | false =>
        rw[UZ,if_neg (by decide)]
        simp (disch:=omega)only[go_sem,vh,AP.f113L0,hb,b1,nl,f1,l0,k1,k2,k3]
      | true =>
        cases B3 with
        | false =>
          rw[UZ,U3,if_neg (by decide)]
          simp (disch:=omega)only[go_sem,vh,AP.f113L0,hb,b1,nl,f1,l0,k1,k2,k3]
        | true =>
          cases B4 with
          | false =>
            rw[U3,U3,if_neg (by decide)]
            simp (disch:=omega)only[go_sem,vh,AP.f113L0,hb,b1,nl,f1,l0,k1,k2,k3]
          | true =>
            rw[Ve,Ve,if_pos rfl]
            simp (disch:=omega)only[go_sem,vh,AP.f113L0,hb,b1,nl,f1,l0,k1,k2,k3]
    | some y =>
      obtain⟨p',rfl⟩:∃p',p=p'++[y]:=List.getLast?_eq_some_iff.1 hl
      have hpl:(p'++[y]).length=p'.length+1:=by simp
      have hy:l[p'.length]?=some y:=by rw[hp];simp
      have hJ:(0:Int)≤(p'.length:Int)∧(p'.length:Int)<l.length:=⟨by omega,by omega⟩
      have bj:=a1 _ hJ
      have fj:=a2 _ 0 0 hJ
      have lj:=(a3 h (Ext.refl h)).1 p'.length (0+0) (.str y.1.name) hJ (by
       rw[xc,show vD l=l.flatMap Nr from rfl,uK,zu Ar hy (by omega)];rfl)
      have cmp:bp .geq (.str y.1.name) (.str x.1.name)=some (.bool (!(Op.bytesLess y.1.name.toList x.1.name.toList))):=rfl
      have n2:(((p'++[y]).length:Nat):Int)-1=(p'.length:Int):=by rw[hpl];omega
      clear ih w1 pe f2 a1 a2 a3 a4 hl hv hp ho hx hy
      rw[UU,DY]
      simp only[Vg]at fj lj
      generalize Op.bytesLess y.1.name.toList x.1.name.toList=B2 at *
      generalize wo x.1.name=B1 at *
      generalize wg x.1=B3 at *
      generalize wV x.1=B4 at *
      generalize (p'++[y]).length=pl at *
      cases B1 with
      | false =>
        rw[UZ,if_neg (by decide)]
        simp (disch:=omega)only[go_sem,vh,AP.f113L0,hb,b1,nl,f1,l0,k1,k2,k3,bj,fj,lj,cmp,n2]
      | true =>
        cases B2 with
        | false =>
          rw[UZ,U3,if_neg (by decide)]
          simp (disch:=omega)only[go_sem,vh,AP.f113L0,hb,b1,nl,f1,l0,k1,k2,k3,bj,fj,lj,cmp,n2]
        | true =>
          cases B3 with
          | false =>
            rw[UZ,U3,U3,if_neg (by decide)]
            simp (disch:=omega)only[go_sem,vh,AP.f113L0,hb,b1,nl,f1,l0,k1,k2,k3,bj,fj,lj,cmp,n2]
          | true =>
            cases B4 with
            | false =>
              rw[U3,U3,U3,if_neg (by decide)]
              simp (disch:=omega)only[go_sem,vh,AP.f113L0,hb,b1,nl,f1,l0,k1,k2,k3,bj,fj,lj,cmp,n2]
            | true =>
              rw[Ve,Ve,Ve,if_pos rfl]
              simp (disch:=omega)only[go_sem,vh,AP.f113L0,hb,b1,nl,f1,l0,k1,k2,k3,bj,fj,lj,cmp,n2]
   have hmay:xi (p.getLast?.map (·.1)) ((x::q).map (·.1))=(xR (p.getLast?.map (·.1)) x.1&&xi (some x.1) (q.map (·.1))):=rfl
   rw[hmay]
   by_cases hok:xR (p.getLast?.map (·.1)) x.1=true
   · rw[if_pos hok]at step
     rw[hok,U7]
     rcases ih with ⟨e',r1,r2,r3⟩|⟨e',r1,r2,r3⟩
     · exact .inl ⟨e',sZ step r1,r2,r3⟩
     · exact .inr ⟨e',sZ step r1,r2,r3⟩
   · have hok':xR (p.getLast?.map (·.1)) x.1=false:=by simpa using hok
     rw[if_neg hok]at step
     rw[hok',UZ]
     exact .inr ⟨_,tC step,rfl,rfl⟩
def wR (l:List vQ):Bool:=xi none l&&decide (l.length≤6)
theorem JF (h:H) (v:AV) (l:List vF) (hvs:v.sc=true) (hn:l.length<1125899906842624) (rd:wO 9 h v l.length (vD l)) (hv:∀x∈l,wS h x):aQ AP.A 113 [.agg [v]] h=some (.bool (wR (l.map (·.1))),h):=by
 obtain⟨h1,eh1⟩:∃g,g=h.dX.alloc [v]:=⟨_,rfl⟩
 have hx:Ext h.dX h1:=by rw[eh1];exact(Ext.refl _).alloc _
 have hx0:Ext h h1:=fun i c q=>hx i c q
 have hn0:h.dX.next=h.next:=rfl
 have g1:h1.get h.next=some [v]:=by rw[eh1];exact vk rfl
 have rd1:=rd.mono fun i c q=>hx0 i c q
 have ln:=rd1.len
 have hb:∀ev:Env,look ev 0=.agg [v]→aX ev (.box 1 (.t 0))=some ([v],fun i=>.aC i 0):=by
  intro ev q
  simp only[aX,rU,q,kJ]
  rw[if_pos ⟨rfl,by simp [hvs]⟩]
 unfold wR
 rcases G3 hn h1 h.next g1 rd1 (fun x hx=>(hv x hx).mono hx0) l [] rfl with ⟨e',r1,r2,r3⟩|⟨e',r1,r2,r3⟩
 · have r1':Lp AP.A [1,7,8] AP.f113L0 [(1,.aC h.next 0),(7,.int .i64 l.length),(8,.int .i64 0)] h1=some (.exit 0,e',h1):=r1
   clear r1
   have r3':xi none (l.map (·.1))=true:=r3
   rw[r3',U7,UW]
   refine tM (fn:=AP.f113) (h2:=h1) (e:=[(2,.bool (decide (l.length≤6)))]) rfl rfl rfl ?_ rfl rfl
   clear rd rd1 hv hx hx0 r3 r3'
   simp only[mN,mO,AP.f113]
   rw[rF,rD,sP,iV,hb _ rfl]
   simp only[mb,hn0,←eh1]
   by_cases c:l.length≤6
   · simp (disch:=omega)only[go_sem,vh,g1,ln,rR,r1',r2]
   · simp (disch:=omega)only[go_sem,vh,g1,ln,rR,r1',r2]
 · have r1':Lp AP.A [1,7,8] AP.f113L0 [(1,.aC h.next 0),(7,.int .i64 l.length),(8,.int .i64 0)] h1=some (.ret,e',h1):=r1
   clear r1
   have r3':xi none (l.map (·.1))=false:=r3
   rw[r3',UZ]
   refine tM (fn:=AP.f113) (h2:=h1) (e:=e') (vs:=[.bool false]) rfl rfl rfl ?_ (by simp only[AP.f113,cL,mQ,r2];rfl) rfl
   clear rd rd1 hv hx hx0 r3 r3'
   simp only[mN,mO,AP.f113]
   rw[rF,rD,sP,iV,hb _ rfl]
   simp only[mb,hn0,←eh1]
   simp (disch:=omega)only[go_sem,vh,g1,ln,rR,r1']
def xM (method : Int) (s : ByteArray) (size : Int) : Option ByteArray :=
 if size<0∨300<size then none
 else if method=0 then(if(s.size:Int)=size then some s else none)
 else if method=8 then(match xJ s size with
  | .ok (o,took)=>if(o.length:Int)=size∧took=s.size then some (bytesOf o)else none
  | .error _=>none)
 else none
theorem AN {m : Int} {s : ByteArray} {z : Int} {t : ByteArray} (h : xM m s z = some t) : (t.size : Int) = z ∧ 0 ≤ z ∧ z ≤ 300 := by
 unfold xM at h
 split at h
 · cases h
 · rename_i q
   split at h
   · split at h
     · rename_i q2;obtain rfl:=uv h;omega
     · cases h
   · split at h
     · split at h
       · split at h
         · rename_i q2
           obtain rfl:=uv h
           rw[vS];omega
         · cases h
       · cases h
     · cases h
def HL:Option ByteArray→AV
 |some t=>.bO [.str t,.int .i64 0]
 |none=>.bO [.str ⟨#[]⟩,.int .i64 900]
theorem JC (h : H) (hf : h.floor ≤ h.next) (m : Int) (s : ByteArray) (z : Int) (hs : s.size < 1125899906842624) : aQ AP.A 114 [.int .i64 m, .str s, .int .i64 z] h = some (HL (xM m s z), h) := by
 unfold xM
 by_cases c1:z<0
 · rw[if_pos (.inl c1)]
   refine tM (fn:=AP.f114) (h2:=h.dX) (e:=[(6,.str ⟨#[]⟩),(7,.int .i64 900)]) rfl rfl rfl ?_ rfl rfl
   simp (disch:=omega)only[go_sem,vh,AP.f114]
 by_cases c2:300<z
 · rw[if_pos (.inr c2)]
   refine tM (fn:=AP.f114) (h2:=h.dX) (e:=[(6,.str ⟨#[]⟩),(7,.int .i64 900)]) rfl rfl rfl ?_ rfl rfl
   simp (disch:=omega)only[go_sem,vh,AP.f114]
 rw[if_neg (by omega)]
 by_cases c3:m=0
 · rw[if_pos c3]
   by_cases c4:(s.size:Int)=z
   · rw[if_pos c4]
     refine tM (fn:=AP.f114) (h2:=h.dX) (e:=[(6,.str s),(7,.int .i64 0)]) rfl rfl rfl ?_ rfl rfl
     simp (disch:=omega)only[go_sem,vh,AP.f114]
   · rw[if_neg c4]
     refine tM (fn:=AP.f114) (h2:=h.dX) (e:=[(6,.str ⟨#[]⟩),(7,.int .i64 900)]) rfl rfl rfl ?_ rfl rfl
     simp (disch:=omega)only[go_sem,vh,AP.f114]
 rw[if_neg c3]
 by_cases c5:m=8
 · rw [if_pos c5]
   have k1:=Hz h.dX (by simp) s z hs
   simp only[I]at k1
   cases hi:xJ s z with
   | error k =>
     rw[hi]at k1
     simp only[Hy,I]at k1
     have hk:=Av hi
     have hk':¬k=0:=by rcases hk with rfl|rfl<;>decide
     clear hk
     refine tM (fn:=AP.f114) (h2:=h.dX) (e:=[(6,.str ⟨#[]⟩),(7,.int .i64 900)]) rfl rfl rfl ?_ rfl rfl
     simp (disch:=omega)only[go_sem,vh,AP.f114,k1]
   | ok r =>
     obtain⟨o,took⟩:=r
     rw[hi]at k1
     simp only[Hy,I]at k1
     dsimp only
     have sz:=vS o
     by_cases c6:(o.length:Int)=z
     · by_cases c7:took=s.size
       · rw[if_pos ⟨c6,c7⟩]
         refine tM (fn:=AP.f114) (h2:=h.dX) (e:=[(6,.str (bytesOf o)),(7,.int .i64 0)]) rfl rfl rfl ?_ rfl rfl
         simp (disch:=omega)only[go_sem,vh,AP.f114,k1,sz]
       · rw[if_neg (fun q=>c7 q.2)]
         refine tM (fn:=AP.f114) (h2:=h.dX) (e:=[(6,.str ⟨#[]⟩),(7,.int .i64 900)]) rfl rfl rfl ?_ rfl rfl
         simp (disch:=omega)only[go_sem,vh,AP.f114,k1,sz]
     · rw[if_neg (fun q=>c6 q.1)]
       refine tM (fn:=AP.f114) (h2:=h.dX) (e:=[(6,.str ⟨#[]⟩),(7,.int .i64 900)]) rfl rfl rfl ?_ rfl rfl
       simp (disch:=omega)only[go_sem,vh,AP.f114,k1,sz]
 · rw[if_neg c5]
   refine tM (fn:=AP.f114) (h2:=h.dX) (e:=[(6,.str ⟨#[]⟩),(7,.int .i64 900)]) rfl rfl rfl ?_ rfl rfl
   simp (disch:=omega)only[go_sem,vh,AP.f114]
theorem HM (h : H) (m : Int) (s : ByteArray) (z : Int) (hs : s.size < 1125899906842624) : aQ AP.A 164 [.int .i64 m, .str s, .int .i64 z] h = some (HL (xM m s z), h) := by
 unfold xM
 by_cases c1:z<0
 · rw[if_pos (.inl c1)]
   refine tM (fn:=AP.f164) (h2:=h.dX) (e:=[(6,.str ⟨#[]⟩),(7,.int .i64 900)]) rfl rfl rfl ?_ rfl rfl
   simp (disch:=omega)only[go_sem,vh,AP.f164]
 by_cases c2:300<z
 · rw[if_pos (.inr c2)]
   refine tM (fn:=AP.f164) (h2:=h.dX) (e:=[(6,.str ⟨#[]⟩),(7,.int .i64 900)]) rfl rfl rfl ?_ rfl rfl
   simp (disch:=omega)only[go_sem,vh,AP.f164]
 rw[if_neg (by omega)]
 by_cases c3:m=0
 · rw[if_pos c3]
   by_cases c4:(s.size:Int)=z
   · rw[if_pos c4]
     refine tM (fn:=AP.f164) (h2:=h.dX) (e:=[(6,.str s),(7,.int .i64 0)]) rfl rfl rfl ?_ rfl rfl
     simp (disch:=omega)only[go_sem,vh,AP.f164]
   · rw[if_neg c4]
     refine tM (fn:=AP.f164) (h2:=h.dX) (e:=[(6,.str ⟨#[]⟩),(7,.int .i64 900)]) rfl rfl rfl ?_ rfl rfl
     simp (disch:=omega)only[go_sem,vh,AP.f164]
 rw[if_neg c3]
 by_cases c5:m=8
 · rw [if_pos c5]
   have k1:=FO h.dX s z hs
   simp only[I]at k1
   cases hi:xJ s z with
   | error k =>
     rw[hi]at k1
     simp only[Hy,I]at k1
     have hk:=Av hi
     have hk':¬k=0:=by rcases hk with rfl|rfl<;>decide
     clear hk
     refine tM (fn:=AP.f164) (h2:=h.dX) (e:=[(6,.str ⟨#[]⟩),(7,.int .i64 900)]) rfl rfl rfl ?_ rfl rfl
     simp (disch:=omega)only[go_sem,vh,AP.f164,k1]
   | ok r =>
     obtain⟨o,took⟩:=r
     rw[hi]at k1
     simp only[Hy,I]at k1
     dsimp only
     have sz:=vS o
     by_cases c6:(o.length:Int)=z
     · by_cases c7:took=s.size
       · rw[if_pos ⟨c6,c7⟩]
         refine tM (fn:=AP.f164) (h2:=h.dX) (e:=[(6,.str (bytesOf o)),(7,.int .i64 0)]) rfl rfl rfl ?_ rfl rfl
         simp (disch:=omega)only[go_sem,vh,AP.f164,k1,sz]
       · rw[if_neg (fun q=>c7 q.2)]
         refine tM (fn:=AP.f164) (h2:=h.dX) (e:=[(6,.str ⟨#[]⟩),(7,.int .i64 900)]) rfl rfl rfl ?_ rfl rfl
         simp (disch:=omega)only[go_sem,vh,AP.f164,k1,sz]
     · rw[if_neg (fun q=>c6 q.1)]
       refine tM (fn:=AP.f164) (h2:=h.dX) (e:=[(6,.str ⟨#[]⟩),(7,.int .i64 900)]) rfl rfl rfl ?_ rfl rfl
       simp (disch:=omega)only[go_sem,vh,AP.f164,k1,sz]
 · rw[if_neg c5]
   refine tM (fn:=AP.f164) (h2:=h.dX) (e:=[(6,.str ⟨#[]⟩),(7,.int .i64 900)]) rfl rfl rfl ?_ rfl rfl
   simp (disch:=omega)only[go_sem,vh,AP.f164]
def y6 (e : vQ) : Option ByteArray :=
 if wR [e]=false then none
 else if e.gone then some ⟨#[]⟩
 else match xM e.method e.packed e.size with
  |some t=>if(xE t:Int)=e.yI then some t else none
  |none=>none
theorem P5 (h : H) (hf : h.floor ≤ h.next) (e : vQ) (v : AV) (hv : v.sc = true) (ok : wS h (e, v)) : ∃ t, aQ AP.A 107 [.agg (vq e v)] h = some (.bO [.str t, .bool (y6 e).isSome], h) ∧ (∀ u, y6 e = some u → t = u) := by
 obtain⟨h1,eh1⟩:∃g,g=h.dX.alloc (vq e v):=⟨_,rfl⟩
 obtain⟨h2,eh2⟩:∃g,g=h1.alloc (vq e v):=⟨_,rfl⟩
 have hx1:Ext h h1:=fun i c q=>by rw[eh1];exact((Ext.refl h.dX).alloc _) i c q
 have hx2:Ext h h2:=by rw[eh2];exact hx1.alloc _
 have hn0:h.dX.next=h.next:=rfl
 have hn1:h1.next=h.next+1:=by rw[eh1];simp
 have g1:h2.get h.next=some (vq e v):=by rw[eh2,vN (by omega),eh1,vk (by simp)]
 have g0:h1.get h.next=some (vq e v):=by rw[eh1,vk (by simp)]
 have o:wO 9 h2 (.aD (h.next+1) 0 1 9) 1 (vD [(e,v)]):=by
  refine⟨?_,rfl,fun _=>by simp⟩
  simp only[aR,if_true]
  rw[eh2,vk (by omega)]
  rfl
 have k1:=JF h2 (.aD (h.next+1) 0 1 9) [(e,v)] rfl (by simp) o (fun x hx=>by
  obtain rfl:x=(e,v):=by simpa using hx
  exact ok.mono hx2)
 have k1':aQ AP.A 113 [.agg [.aD (h.next+1) 0 1 9]] h2=some (.bool (wR [e]),h2):=k1
 have hf2:h2.floor≤h2.next:=by rw[eh2,eh1];simp;omega
 have k2:=JC h2 hf2 e.method e.packed e.size ok.pl
 have rdA:hR true 9 (vq e v) 0=some (.agg (vq e v)):=rfl
 have cr:∀t:ByteArray,t.size<1125899906842624→aQ AP.A 115 [.str t] h2=some (.int .i64 (xE t:Nat),h2):=fun t ht=>E8 h2 t ht
 clear k1 o hx1 hx2
 unfold y6
 simp only[vq]at *
 cases hm:wR [e]with
 | false =>
   rw[hm]at k1'
   refine⟨⟨#[]⟩, ?_,fun u q=>by simp at q⟩
   rw[if_pos rfl]
   refine tM (fn:=AP.f107) (h2:=h2) (e:=[(2,.str ⟨#[]⟩),(3,.bool false)]) rfl rfl rfl ?_ rfl rfl
   simp (disch:=omega)only[go_sem,vh,AP.f107,hv,hn0,←eh1,g0,rdA,hn1,←eh2,k1']
 | true =>
   rw[hm]at k1'
   rw[if_neg (by decide)]
   cases hg:e.gone with
   | true =>
     rw[hg]at g1 g0 eh1 eh2 rdA
     refine⟨⟨#[]⟩, ?_,fun u q=>by simpa using q⟩
     refine tM (fn:=AP.f107) (h2:=h2) (e:=[(2,.str ⟨#[]⟩),(3,.bool true)]) rfl rfl rfl ?_ rfl rfl
     simp (disch:=omega)only[go_sem,vh,AP.f107,hv,hn0,←eh1,g0,g1,rdA,hn1,←eh2,k1']
   | false =>
     rw[hg]at g1 g0 eh1 eh2 rdA
     rw[if_neg (by decide)]
     cases hu:xM e.method e.packed e.size with
     | none =>
       rw[hu]at k2
       simp only[HL]at k2
       refine⟨⟨#[]⟩, ?_,fun u q=>by simp at q⟩
       refine tM (fn:=AP.f107) (h2:=h2) (e:=[(2,.str ⟨#[]⟩),(3,.bool false)]) rfl rfl rfl ?_ rfl rfl
       simp (disch:=omega)only[go_sem,vh,AP.f107,hv,hn0,←eh1,g0,g1,rdA,hn1,←eh2,k1',k2]
     | some t =>
       rw[hu]at k2
       simp only[HL]at k2
       have kc:=cr t (by have:=AN hu;omega)
       dsimp only
       by_cases c:(xE t:Int)=e.yI
       · rw[if_pos c]
         refine⟨t, ?_,fun u q=>uv q⟩
         refine tM (fn:=AP.f107) (h2:=h2) (e:=[(2,.str t),(3,.bool true)]) rfl rfl rfl ?_ rfl rfl
         simp (disch:=omega)only[go_sem,vh,AP.f107,hv,hn0,←eh1,g0,g1,rdA,hn1,←eh2,k1',k2,kc]
       · rw[if_neg c]
         refine⟨t, ?_,fun u q=>by simp at q⟩
         refine tM (fn:=AP.f107) (h2:=h2) (e:=[(2,.str t),(3,.bool false)]) rfl rfl rfl ?_ rfl rfl
         simp (disch:=omega)only[go_sem,vh,AP.f107,hv,hn0,←eh1,g0,g1,rdA,hn1,←eh2,k1',k2,kc]
def wG (e:vQ):Bool:=(y6 e).isSome
theorem FK (h:H) (hf:h.floor≤h.next) (e:vQ) (v:AV) (hv:v.sc=true) (ok:wS h (e,v)):aQ AP.A 96 [.agg (vq e v)] h=some (.bool (wG e),h):=by
 obtain⟨h1,eh1⟩:∃g,g=h.dX.alloc (vq e v):=⟨_,rfl⟩
 have hx1:Ext h h1:=fun i c q=>by rw[eh1];exact((Ext.refl h.dX).alloc _) i c q
 have hn0:h.dX.next=h.next:=rfl
 have g0:h1.get h.next=some (vq e v):=by rw[eh1,vk (by simp)]
 obtain⟨t,k1,_⟩:=P5 h1 (by rw[eh1];simp) e v hv (ok.mono hx1)
 have rdA:hR true 9 (vq e v) 0=some (.agg (vq e v)):=rfl
 refine tM (fn:=AP.f96) (h2:=h1) (e:=[(2,.bool (wG e))]) rfl rfl rfl ?_ rfl rfl
 clear hx1
 unfold wG
 simp only[vq]at *
 simp (disch:=omega)only[go_sem,vh,AP.f96,hv,hn0,←eh1,g0,rdA,k1]
theorem IJ (e:vQ):wR [e]=(wo e.name&&(wg e&&wV e)):=by
 unfold wR xi
 rw[Aq]
 simp [xi]
theorem ID (h : H) (e : vQ) (v : AV) (hv : v.sc = true) (ok : wS h (e, v)) : aQ AP.A 167 [.agg (vq e v)] h = some (.bool (wR [e]), h) := by
 obtain⟨h1,eh1⟩:∃g,g=h.dX.alloc (vq e v):=⟨_,rfl⟩
 have hx1:Ext h h1:=fun i c q=>by rw[eh1];exact((Ext.refl h.dX).alloc _) i c q
 have hn0:h.dX.next=h.next:=rfl
 have g0:h1.get h.next=some (vq e v):=by rw[eh1,vk (by simp)]
 have k1:=Kn h1 e.name ok.nl
 have k2:=Gq h1 v e (ok.mono hx1).vec hv ok.vl
 have e1:bp .eql (.str e.packed) (.str ⟨#[]⟩)=some (.bool (Ch e.packed)):=yt _ _
 have rdA:hR true 9 (vq e v) 0=some (.agg (vq e v)):=rfl
 rw[IJ]
 refine tM (fn:=AP.f167) (h2:=h1) (e:=[(2,.bool (wo e.name&&(wg e&&wV e)))]) rfl rfl rfl ?_ rfl rfl
 clear hx1 ok
 unfold wV y9
 generalize wo e.name=B1 at *
 generalize wg e=B2 at *
 generalize Ch e.packed=B3 at *
 simp only[vq]at *
 cases B1 with
 |false=>simp (disch:=omega)only[go_sem,vh,AP.f167,hv,hn0,←eh1,g0,rdA,k1,k2]
 | true =>
   cases B2 with
   |false=>simp (disch:=omega)only[go_sem,vh,AP.f167,hv,hn0,←eh1,g0,rdA,k1,k2]
   | true =>
     cases hg:e.gone with
     | true =>
       rw[hg]at g0 eh1 rdA k2
       rw[if_pos rfl]
       by_cases c1:e.method=0
       · cases B3 with
         |false=>simp (disch:=omega)only[go_sem,vh,AP.f167,hv,hn0,←eh1,g0,rdA,k1,k2,e1]
         | true =>
           by_cases c2:e.size=0
           · by_cases c3:e.yI=0<;>simp (disch:=omega)only[go_sem,vh,AP.f167,hv,hn0,←eh1,g0,rdA,k1,k2,e1]
           · simp (disch:=omega)only[go_sem,vh,AP.f167,hv,hn0,←eh1,g0,rdA,k1,k2,e1]
       · simp (disch:=omega)only[go_sem,vh,AP.f167,hv,hn0,←eh1,g0,rdA,k1,k2,e1]
     | false =>
       rw[hg]at g0 eh1 rdA k2
       rw[if_neg (by decide)]
       by_cases c1:0≤e.size
       · by_cases c2:e.size≤300
         · by_cases c3:0≤e.yI
           · by_cases c4:e.yI≤4294967295
             · by_cases c5:e.method=0
               · have c5':¬e.method=8:=by omega
                 by_cases c6:(e.packed.size:Int)=e.size<;>simp (disch:=omega)only[go_sem,vh,AP.f167,hv,hn0,←eh1,g0,rdA,k1,k2,e1]
               · by_cases c7:e.method=8
                 · by_cases c8:e.packed.size≤300<;>simp (disch:=omega)only[go_sem,vh,AP.f167,hv,hn0,←eh1,g0,rdA,k1,k2,e1]
                 · simp (disch:=omega)only[go_sem,vh,AP.f167,hv,hn0,←eh1,g0,rdA,k1,k2,e1]
             · have c4':¬(0≤e.yI∧e.yI≤4294967295):=by omega
               simp (disch:=omega)only[go_sem,vh,AP.f167,hv,hn0,←eh1,g0,rdA,k1,k2,e1]
           · have c4':¬(0≤e.yI∧e.yI≤4294967295):=by omega
             simp (disch:=omega)only[go_sem,vh,AP.f167,hv,hn0,←eh1,g0,rdA,k1,k2,e1]
         · simp (disch:=omega)only[go_sem,vh,AP.f167,hv,hn0,←eh1,g0,rdA,k1,k2,e1]
       · simp (disch:=omega)only[go_sem,vh,AP.f167,hv,hn0,←eh1,g0,rdA,k1,k2,e1]
theorem Gk (h : H) (e : vQ) (v : AV) (hv : v.sc = true) (ok : wS h (e, v)) : aQ AP.A 157 [.agg (vq e v)] h = some (.bool (wG e), h) := by
 obtain⟨h1,eh1⟩:∃g,g=h.dX.alloc (vq e v):=⟨_,rfl⟩
 have hx1:Ext h h1:=fun i c q=>by rw[eh1];exact((Ext.refl h.dX).alloc _) i c q
 have hn0:h.dX.next=h.next:=rfl
 have g0:h1.get h.next=some (vq e v):=by rw[eh1,vk (by simp)]
 have k1:=ID h1 e v hv (ok.mono hx1)
 have k2:=HM h1 e.method e.packed e.size ok.pl
 have rdA:hR true 9 (vq e v) 0=some (.agg (vq e v)):=rfl
 have cr:∀t:ByteArray,t.size<1125899906842624→aQ AP.A 101 [.str t] h1=some (.int .i64 (xE t:Nat),h1):=fun t ht=>B6 h1 t ht
 unfold wG y6
 clear hx1 ok
 cases hm:wR [e]with
 | false =>
   rw[hm]at k1
   rw[if_pos rfl]
   refine tM (fn:=AP.f157) (h2:=h1) (e:=[(2,.bool false)]) rfl rfl rfl ?_ rfl rfl
   simp only[vq]at *
   simp (disch:=omega)only[go_sem,vh,AP.f157,hv,hn0,←eh1,g0,rdA,k1]
 | true =>
   rw[hm]at k1
   rw[if_neg (by decide)]
   cases hg:e.gone with
   | true =>
     refine tM (fn:=AP.f157) (h2:=h1) (e:=[(2,.bool true)]) rfl rfl rfl ?_ rfl rfl
     simp only[vq,hg]at *
     simp (disch:=omega)only[go_sem,vh,AP.f157,hv,hn0,←eh1,g0,rdA,k1]
   | false =>
     rw[if_neg (by decide)]
     cases hu:xM e.method e.packed e.size with
     | none =>
       rw[hu]at k2
       simp only[HL]at k2
       refine tM (fn:=AP.f157) (h2:=h1) (e:=[(2,.bool false)]) rfl rfl rfl ?_ rfl rfl
       simp only[vq,hg]at *
       simp (disch:=omega)only[go_sem,vh,AP.f157,hv,hn0,←eh1,g0,rdA,k1,k2]
     | some t =>
       rw[hu]at k2
       simp only[HL]at k2
       have kc:=cr t (by have:=AN hu;omega)
       dsimp only
       by_cases c:(xE t:Int)=e.yI
       · rw[if_pos c]
         refine tM (fn:=AP.f157) (h2:=h1) (e:=[(2,.bool true)]) rfl rfl rfl ?_ rfl rfl
         simp only[vq,hg]at *
         simp (disch:=omega)only[go_sem,vh,AP.f157,hv,hn0,←eh1,g0,rdA,k1,k2,kc]
       · rw[if_neg c]
         refine tM (fn:=AP.f157) (h2:=h1) (e:=[(2,.bool false)]) rfl rfl rfl ?_ rfl rfl
         simp only[vq,hg]at *
         simp (disch:=omega)only[go_sem,vh,AP.f157,hv,hn0,←eh1,g0,rdA,k1,k2,kc]
theorem PO (c:ae) (e:Env) (h:H) (x y:X):ah c e h (.mx [x,y])=dx h (lV (x.ev e) (y.ev e)):=by
 simp only[ah,aW,U5,Vf,gv]
 cases lV (x.ev e) (y.ev e)<;>rfl
def wT (a b:Int):Int:=if a<b then b else a
theorem JJ (k:IntKind) (a b:Int):lV (.int k a) (.int k b)=some (.int k (wT a b)):=rfl
def zR (a b:List Int):List Int:=List.zipWith wT a b
theorem Rd.Tc {h:H} {v:AV} {cs:List AV} (r:Rd h v cs) (hc:cs≠[]):fI 1 v .aO=some false:=by
 obtain⟨r,hs⟩:=r
 unfold aR at r
 split at r
 · obtain⟨_,h2⟩:=ux (uv r);exact absurd h2.symm hc
 · exact absurd rfl (hs _)
 · rfl
 · rfl
 · cases r
theorem C5 {n:Nat} {h:H} {v:AV} {k:Nat} {cs:List AV} (r:wO n h v k cs) (hfn:h.floor≤h.next) (hn:0<n) (hk:0<k) {z:Nat} (hr:roomy z k=true) (hc:AV.aB cs=true):
 kD (h.alloc []) n z (.aD h.next 0 0 n) v=some (.aD (h.next+1) 0 k n,((h.alloc []).del h.next).alloc cs):=by
 have r2:wO n (h.alloc []) v k cs:=r.mono fun i c q=>by rw[H.aV,if_neg (by have:=h.lt _ _ q;omega)];exact q
 unfold kD
 rw[r2.1,uC]
 have hkn:0<k* n:=Nat.mul_pos hk hn
 unfold dS
 rw[if_neg (by omega),if_neg (by simp [hc];omega)]
 simp only[H.jr,hfn,and_self,if_true]
 rw[vk rfl,uC,if_neg (by simp;omega),if_pos ⟨by simp,by simpa using hr⟩]
 simp
theorem zZ:∀l:List Int,AV.aB (ints l)=true
 |[]=>rfl
 | n :: l => by
   have:=zZ l
   show AV.aB (I n::ints l)=true
   rw[pN,this];rfl
theorem DX (h:H) (v:AV) (l:List Int) (rd:Rd h v (ints l)) (hl:0<l.length) (hb:l.length<1000000) (hfn:h.floor≤h.next):aQ AP.A 118 [v] h=some (.aD (h.next+1) 0 l.length 1,((h.alloc []).del h.next).alloc (ints l)):=by
 have r2:=rd.Ef
 rw[pt]at r2
 have ap:=C5 r2 hfn (by omega) hl (z:=8) (by simp [roomy];omega) (zZ l)
 have nn:=rd.Tc (fun q=>by
  have q2:(ints l).length=0:=by rw[q];rfl
  rw[pt]at q2
  omega)
 refine tr (fn:=AP.f118) (h2:=((h.alloc []).del h.next).alloc (ints l)) (e:=[(2,.aD (h.next+1) 0 l.length 1)]) (vs:=[.aD (h.next+1) 0 l.length 1]) rfl rfl rfl ?_ rfl
 clear rd r2
 simp (disch:=omega)only[go_sem,vh,AP.f118,nn,ap]
theorem KW {l:List Int} (h:l.length=4):∃a b c d,l=[a,b,c,d]:=by
 match l,h with
 |[a,b,c,d],_=>exact⟨a,b,c,d,rfl⟩
def Bi (l:List Int):AV:=DI 1 l.length (ints l)
theorem zM (h:H) (id:Nat) (b0:AV) (adv:Int→AV) (i:Nat) (x y:Int) (cs:List AV) (hi:i<4) (hg:h.get id=some cs) (hl:cs.length=4) (hx:cs[i]?=some (.int .i64 x)) (hf:h.floor≤id)
 (a1:fU 1 b0 (.int .i64 i)=some (adv i)) (a2:bS false 1 (adv i) h=some (.int .i64 y)):
 aK (aQ AP.A) bz AP.f110L0 (ax [(6,.aD id 0 4 1),(19,b0),(20,.int .i64 4),(21,.int .i64 i)] [6,19,20,21]) h=some (.normal,[(6,.aD id 0 4 1),(19,b0),(20,.int .i64 4),(21,.int .i64 ((i:Int)+1))],h.set id (cs.set i (.int .i64 (wT x y)))):=by
 have st:=uh (h:=h) (id:=id) (off:=i) (v:=.int .i64 (wT x y)) (cs:=cs) hf (by omega) rfl
 simp (disch:=omega)only[go_sem,vh,AP.f110L0,a1,a2,hg,hx,PO,JJ,st]
def EO:vQ:=⟨⟨#[]⟩,false,[],0,0,0,⟨#[]⟩,0,0⟩
theorem Jm {g:Nat→Option (List AV)} {fl n:Nat} {e:vQ} {v v':AV} (hv:snap g fl (n+1) true v=some v'):snap g fl (n+2) true (.agg (vq e v))=some (.agg (vq e v')):=by
 unfold snap
 simp only[vq,fJ,hv]
 rfl
abbrev Z9:List AV:=[.str ⟨#[]⟩,.bool false,.aO,.int .i64 0,.int .i64 0,.int .i64 0,.str ⟨#[]⟩,.int .i64 0,.int .i64 0]
def Ac (name:ByteArray) (node:Nat) (vG:Int) (text:ByteArray):vQ:=⟨name,false,[0,0,0,0].set node vG,vG,node,0,text,text.size,xE text⟩
theorem Qb {l:List Int} (h:l.length=4):Bi l=.aU false (ints l) 0 4 1:=by unfold Bi DI;rw[h,if_neg (by omega)]
theorem GO {v w : AV} {a b : List Int} (hab : a.length = b.length) (hl : a.length < 1125899906842624) (h : H) (ra : Rd h v (ints a)) (rb : Rd h w (ints b)) : ∀ (p q r : List Int) (p' : List Int), a = p ++ q → b = p' ++ r → p.length = p'.length →
 (∃e',Lp AP.A [0,1,5] AP.f106L0 [(0,v),(1,w),(5,.int .i64 p.length)] h=some (.exit 0,e',h)∧decide (q=r)=true)∨
 (∃e',Lp AP.A [0,1,5] AP.f106L0 [(0,v),(1,w),(5,.int .i64 p.length)] h=some (.ret,e',h)∧look e' 4=.bool false∧decide (q=r)=false)
 | p, [], r, p', hp, hq, hpp => by
   have hr:r=[]:=U2 (by rw[hp,hq]at hab;simp at hab;omega)
   left
   have ln:=ra.len
   rw[pt]at ln
   simp only[I]at ln
   rw[UX]at hp
   refine⟨[(0,v),(1,w),(5,.int .i64 p.length),(14,.bool false)],sY ?_,by rw[hr];rfl⟩
   rw[hp]at ln
   clear hab hl ra rb
   simp (disch:=omega)only[go_sem,vh,AP.f106L0,ln]
 | p, x :: q, [], p', hp, hq, hpp => by
   exfalso
   rw[hp,hq]at hab;simp at hab;omega
 | p, x :: q, y :: r, p', hp, hq, hpp => by
   have ln:=ra.len
   rw[pt]at ln
   simp only[I]at ln
   have hlen:a.length=p.length+(q.length+1):=by rw[hp];simp
   have hx:a[p.length]?=some x:=by rw[hp];simp
   have hy:b[p.length]?=some y:=by rw[hpp,hq];simp
   obtain⟨ad,a1,a2⟩:=ra.wI
   obtain⟨bd,b1,b2⟩:=rb.wI
   have i1:=a1 p.length ⟨by omega,by omega⟩
   have i2:=b1 p.length ⟨by omega,by omega⟩
   have l1:=a2 h (Ext.refl h) _ _ hx
   have l2:=b2 h (Ext.refl h) _ _ hy
   have w1:(((p++[x]).length:Nat):Int)=(p.length:Int)+1:=by simp
   have ih:=GO hab hl h ra rb (p++[x]) q r (p'++[y]) (by rw[hp];simp) (by rw[hq];simp) (by simp;omega)
   rw[w1]at ih
   clear a1 a2 b1 b2 ra rb w1
   by_cases c:x=y
   · have step:aK (aQ AP.A) bz AP.f106L0 (ax [(0,v),(1,w),(5,.int .i64 p.length)] [0,1,5]) h=some (.normal,[(0,v),(1,w),(5,.int .i64 ((p.length:Int)+1))],h):=by
      clear ih hp hq
      simp (disch:=omega)only[go_sem,vh,AP.f106L0,ln,i1,i2,l1,l2]
     have e:decide (x::q=y::r)=decide (q=r):=by simp [c]
     rw[e]
     rcases ih with ⟨e',r1,r2⟩|⟨e',r1,r2,r3⟩
     · exact .inl ⟨e',sZ step r1,r2⟩
     · exact .inr ⟨e',sZ step r1,r2,r3⟩
   · right
     refine⟨[(4,.bool false)],tC ?_,rfl,by simp [c]⟩
     clear ih hp hq
     simp (disch:=omega)only[go_sem,vh,AP.f106L0,ln,i1,i2,l1,l2]
theorem BH (h:H) (v w:AV) (a b:List Int) (ra:Rd h v (ints a)) (rb:Rd h w (ints b)) (hl:a.length<1125899906842624):aQ AP.A 106 [v,w] h=some (.bool (decide (a=b)),h):=by
 have ra':=ra.mono (vv h)
 have rb':=rb.mono (vv h)
 have la:=ra'.len
 have lb:=rb'.len
 rw[pt]at la lb
 simp only[I]at la lb
 by_cases c:a.length=b.length
 · rcases GO c hl h.dX ra' rb' [] a b [] rfl rfl rfl with ⟨e',r1,r2⟩|⟨e',r1,r2,r3⟩
   · have r1':Lp AP.A [0,1,5] AP.f106L0 [(0,v),(1,w),(5,.int .i64 0)] h.dX=some (.exit 0,e',h.dX):=r1
     clear r1
     rw[r2]
     refine tM (fn:=AP.f106) (h2:=h.dX) (e:=[(4,.bool true)]) rfl rfl rfl ?_ rfl rfl
     simp (disch:=omega)only[go_sem,vh,AP.f106,la,lb,rR,r1']
   · have r1':Lp AP.A [0,1,5] AP.f106L0 [(0,v),(1,w),(5,.int .i64 0)] h.dX=some (.ret,e',h.dX):=r1
     clear r1
     rw[r3]
     refine tM (fn:=AP.f106) (h2:=h.dX) (e:=e') (vs:=[.bool false]) rfl rfl rfl ?_ (by simp only[AP.f106,cL,mQ,r2];rfl) rfl
     simp (disch:=omega)only[go_sem,vh,AP.f106,la,lb,rR,r1']
 · have e:decide (a=b)=false:=by rw[decide_eq_false_iff_not];intro q;exact c (by rw[q])
   rw[e]
   refine tM (fn:=AP.f106) (h2:=h.dX) (e:=[(4,.bool false)]) rfl rfl rfl ?_ rfl rfl
   simp (disch:=omega)only[go_sem,vh,AP.f106,la,lb]
def Be (a b:vQ):Bool:=(a.name.data.toList==b.name.data.toList)&&((a.gone==b.gone)&&(decide (a.vec=b.vec)&&(decide (a.vG=b.vG)&&(decide (a.node=b.node)&&(decide (a.method=b.method)&&((a.packed.data.toList==b.packed.data.toList)&&(decide (a.size=b.size)&&decide (a.yI=b.yI))))))))
theorem Aa (a b:vQ):Be a b=true↔a=b:=by
 have q:∀x y:ByteArray,(x.data.toList==y.data.toList)=true↔x=y:=fun x y=>by
  constructor
  · intro e;exact ByteArray.ext (Array.toList_inj.1 (eq_of_beq e))
  · rintro rfl;exact Fs _
 obtain⟨a1,a2,a3,a4,a5,a6,a7,a8,a9⟩:=a
 obtain⟨b1,b2,b3,b4,b5,b6,b7,b8,b9⟩:=b
 simp only[Be,uG,UY,q,beq_iff_eq,vQ.mk.injEq]
theorem Ky (h : H) (a b : vQ) (v w : AV) (sa : v.sc = true) (sb : w.sc = true) (ra : wS h (a, v)) (rb : wS h (b, w)) : aQ AP.A 98 [.agg (vq a v), .agg (vq b w)] h = some (.bool (Be a b), h) := by
 obtain⟨h1,eh1⟩:∃g,g=h.dX.alloc (vq a v):=⟨_,rfl⟩
 obtain⟨h2,eh2⟩:∃g,g=h1.alloc (vq b w):=⟨_,rfl⟩
 have x1:Ext h h1:=fun i c q=>by rw[eh1];exact((Ext.refl h.dX).alloc _) i c q
 have x2:Ext h h2:=by rw[eh2];exact x1.alloc _
 have n0:h.dX.next=h.next:=rfl
 have n1:h1.next=h.next+1:=by rw[eh1];simp
 have ga:h2.get h.next=some (vq a v):=by rw[eh2,vN (by omega),eh1,vk (by simp)]
 have gb:h2.get (h.next+1)=some (vq b w):=by rw[eh2,vk (by omega)]
 have k1:=BH h2 v w a.vec b.vec (ra.mono x2).vec (rb.mono x2).vec ra.vl
 have s1:bp .eql (.str a.name) (.str b.name)=some (.bool (a.name.data.toList==b.name.data.toList)):=yt _ _
 have s2:bp .eql (.str a.packed) (.str b.packed)=some (.bool (a.packed.data.toList==b.packed.data.toList)):=yt _ _
 have e1:h.dX.alloc (vq a v)=h1:=eh1.symm
 have e2:h1.alloc (vq b w)=h2:=eh2.symm
 refine tM (fn:=AP.f98) (h2:=h2) (e:=[(4,.bool (Be a b))]) rfl rfl rfl ?_ rfl rfl
 unfold Be
 clear x1 x2 ra rb eh1 eh2
 generalize (a.name.data.toList==b.name.data.toList)=B1 at *
 generalize (a.packed.data.toList==b.packed.data.toList)=B2 at *
 obtain⟨B3,hB3⟩:∃B,(a.gone==b.gone)=B:=⟨_,rfl⟩
 rw[hB3]
 generalize decide (a.vec=b.vec)=B4 at *
 simp only[vq]at *
 cases B1 with
 |false=>simp (disch:=omega)only[go_sem,vh,AP.f98,sa,sb,n0,e1,n1,e2,ga,gb,s1,s2,hB3,k1]
 | true =>
   cases B3 with
   |false=>simp (disch:=omega)only[go_sem,vh,AP.f98,sa,sb,n0,e1,n1,e2,ga,gb,s1,s2,hB3,k1]
   | true =>
     cases B4 with
     |false=>simp (disch:=omega)only[go_sem,vh,AP.f98,sa,sb,n0,e1,n1,e2,ga,gb,s1,s2,hB3,k1]
     | true =>
       by_cases c3:a.vG=b.vG
       · by_cases c4:a.node=b.node
         · by_cases c5:a.method=b.method
           · cases B2 with
             |false=>simp (disch:=omega)only[go_sem,vh,AP.f98,sa,sb,n0,e1,n1,e2,ga,gb,s1,s2,hB3,k1]
             | true =>
               by_cases c7:a.size=b.size
               · by_cases c8:a.yI=b.yI
                 · simp (disch:=omega)only[go_sem,vh,AP.f98,sa,sb,n0,e1,n1,e2,ga,gb,s1,s2,hB3,k1]
                 · simp (disch:=omega)only[go_sem,vh,AP.f98,sa,sb,n0,e1,n1,e2,ga,gb,s1,s2,hB3,k1]
               · simp (disch:=omega)only[go_sem,vh,AP.f98,sa,sb,n0,e1,n1,e2,ga,gb,s1,s2,hB3,k1]
           · simp (disch:=omega)only[go_sem,vh,AP.f98,sa,sb,n0,e1,n1,e2,ga,gb,s1,s2,hB3,k1]
         · simp (disch:=omega)only[go_sem,vh,AP.f98,sa,sb,n0,e1,n1,e2,ga,gb,s1,s2,hB3,k1]
       · simp (disch:=omega)only[go_sem,vh,AP.f98,sa,sb,n0,e1,n1,e2,ga,gb,s1,s2,hB3,k1]
def nA:ByteArray:=⟨#[97]⟩
def nB:ByteArray:=⟨#[98]⟩
def To:ByteArray:=⟨#[104,105]⟩
def Up:ByteArray:=⟨#[104,111]⟩
def eA:vQ:=Ac nA 0 1 To
def eB:vQ:=Ac nA 2 1 Up
def eC:vQ:=Ac nB 0 1 ⟨#[]⟩
def eM:vQ:={eB with vec:=[1,0,1,0]}
theorem wS.ar {h:H} {e:vQ} (hv:e.vec.length=4) (nl:e.name.size<1000000) (pl:e.packed.size<1000000):wS h (e,Bi e.vec):=
 ⟨by rw[show(e,Bi e.vec).2=Bi e.vec from rfl,Qb hv];have:=yg h e.vec;unfold wk at this;rw[hv]at this;exact this,by show e.vec.length<_;omega,by show e.name.size<_;omega,by show e.packed.size<_;omega⟩
theorem Rd.obj {h:H} {p n:Nat} {l:List Int} (hp:h.get p=some (ints l)) (hl:l.length=n):Rd h (.aD p 0 n 1) (ints l):=
 ⟨by subst hl;simp only[aR,if_true,hp,uC];rw[if_pos (by simp),U1,uU (by simp),pt],fun s e=>by cases e⟩
theorem wS.obj {h:H} {e:vQ} {p n:Nat} {l:List Int} (hp:h.get p=some (ints l)) (hl:l.length=n) (he:e.vec=l:=by rfl) (nl:e.name.size<1125899906842624) (pl:e.packed.size<1125899906842624) (hn:n<1000000:=by decide):wS h (e,.aD p 0 n 1):=
 ⟨by show Rd h _ (ints e.vec);rw[he];exact Rd.obj hp hl,by show e.vec.length<_;rw[he];omega,by show e.name.size<_;omega,by show e.packed.size<_;omega⟩
theorem GV (l:List Int):(Bi l).sc=true:=by unfold Bi DI;split<;>rfl
theorem yf {e:vQ} {v:AV} (h:v.sc=true):AV.aB (vq e v)=true:=by simp [vq,h]
def Aw:Ty:=.int .i64
def KV:Ty:=.sl Aw 1 8
def Nq:Ty:=.st [.str,.bool,KV,Aw,Aw,Aw,.str,Aw,Aw]
theorem zA {B:Nat} {avs:List AV} (h:Sh B Aw avs):∃n,avs=[.int .i64 n]∧(-9223372036854775808≤n∧n<9223372036854775808):=by
 cases h with
 |int h=>exact⟨_,rfl,tn h⟩
theorem Kz {B:Nat} {avs:List AV} (h:Sh B .bool avs):∃b,avs=[.bool b]:=by
 cases h with
 |bool b=>exact⟨b,rfl⟩
theorem Ji {avs:List AV} (h:Sh reachBytes .str avs):∃s:ByteArray,avs=[.str s]∧s.size<140737488355328:=by
 cases h with
 |str h=>exact⟨_,rfl,tQ h⟩
theorem KD {B:Nat} {avs:List AV} {ess:List (List AV)} (h:∀es,es∈ess→Sh B Aw es):∃l:List Int,l.length=ess.length∧ess.flatten=ints l:=by
 induction ess with
 |nil=>exact⟨[],rfl,rfl⟩
 | cons x ess ih =>
   obtain⟨n,rfl,_⟩:=zA (h x (by simp))
   obtain⟨l,h1,h2⟩:=ih fun es q=>h es (by simp [q])
   exact⟨n::l,by simp [h1],by rw[List.flatten_cons,h2];rfl⟩
theorem KC {avs:List AV} (h:Sh reachBytes KV avs):∃(v:AV) (l:List Int),avs=[v]∧v.sc=true∧(∀g,Rd g v (ints l))∧l.length<20000000000000:=by
 cases h with
 |aO=>exact⟨.aO,[],rfl,rfl,fun g=>⟨rfl,fun s e=>by cases e⟩,by simp⟩
 | aU ess h hz hb =>
   obtain⟨l,h1,h2⟩:=KD (avs:=[]) h
   rw[h2,←h1]
   refine⟨_,l,rfl,rfl,fun g=> ?_, ?_⟩
   · have:=yg g l
     unfold wk at this;exact this
   · rw[h1];unfold reachBytes at hb;omega
theorem xm {B:Nat} {f:Ty} {fs:List Ty} {avs:List AV} (h:iY B (f::fs) avs):∃a r,avs=a++r∧Sh B f a∧iY B fs r:=by
 cases h with
 |cons h hr=>exact⟨_,_,rfl,h,hr⟩
theorem GL {B:Nat} {avs:List AV} (h:iY B [] avs):avs=[]:=by
 cases h;rfl
theorem K6 {B:Nat} {fs:List Ty} {avs:List AV} (h:Sh B (.st fs) avs):iY B fs avs:=by
 cases h with
 |st h=>exact h
theorem PX {avs:List AV} (h:Sh reachBytes Nq avs):∃(e:vQ) (v:AV),avs=vq e v∧v.sc=true∧(∀g,wS g (e,v))∧e.vec.length<20000000000000:=by
 obtain⟨a1,r1,rfl,s1,h1⟩:=xm (K6 h)
 obtain⟨a2,r2,rfl,s2,h2⟩:=xm h1
 obtain⟨a3,r3,rfl,s3,h3⟩:=xm h2
 obtain⟨a4,r4,rfl,s4,h4⟩:=xm h3
 obtain⟨a5,r5,rfl,s5,h5⟩:=xm h4
 obtain⟨a6,r6,rfl,s6,h6⟩:=xm h5
 obtain⟨a7,r7,rfl,s7,h7⟩:=xm h6
 obtain⟨a8,r8,rfl,s8,h8⟩:=xm h7
 obtain⟨a9,r9,rfl,s9,h9⟩:=xm h8
 obtain rfl:=GL h9
 obtain⟨n,rfl,z1⟩:=Ji s1
 obtain⟨g,rfl⟩:=Kz s2
 obtain⟨v,l,rfl,hv,rd,z3⟩:=KC s3
 obtain⟨st,rfl,_⟩:=zA s4
 obtain⟨no,rfl,_⟩:=zA s5
 obtain⟨me,rfl,_⟩:=zA s6
 obtain⟨pa,rfl,z7⟩:=Ji s7
 obtain⟨si,rfl,_⟩:=zA s8
 obtain⟨cr,rfl,_⟩:=zA s9
 exact⟨⟨n,g,l,st,no,me,pa,si,cr⟩,v,rfl,hv,fun g=>⟨rd g,by show l.length<_;omega,by show n.size<_;omega,by show pa.size<_;omega⟩,z3⟩
theorem Te {P:Ty×List AV→Prop} {a b c:Ty} {r:List (Ty×List AV)} (h:r.map (·.1)=[a,b,c]) (hp:∀x∈r,P x):∃x y z,r=[(a,x),(b,y),(c,z)]∧P (a,x)∧P (b,y)∧P (c,z):=by
 match r,h with
 |[(a',x),(b',y),(c',z)],h=>simp at h;obtain⟨rfl,rfl,rfl⟩:=h;exact⟨x,y,z,rfl,hp _ (by simp),hp _ (by simp),hp _ (by simp)⟩
end Ab
