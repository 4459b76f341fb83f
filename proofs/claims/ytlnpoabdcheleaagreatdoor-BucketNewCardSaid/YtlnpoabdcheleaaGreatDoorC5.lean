/- Part C5. -/
import Derived.Test.YtlnpoabdcheleaaGreatDoorC4
set_option linter.unusedSimpArgs false
set_option linter.unusedVariables false
set_option maxRecDepth 100000
namespace Ab
open Go
theorem O3 {xv yv:AV} {xs ys:List Int} (h:H) (rx:Rd h xv (ints xs)) (ry:Rd h yv (ints ys)) (lx:xs.length=8) (ly:ys.length=8) (own:Nat) (ho:∀j:Nat,j≠own→xs[j]?=ys[j]?):∀(n i:Nat),i+n=8→
 ∃e',Lp AP.A [13,15,17,18] AP.f195L0 [(13,xv),(15,yv),(17,.int .i64 own),(18,.int .i64 i)] h=some (.exit 0,e',h)∧look e' 17=.int .i64 own
 | 0, i, hi => by
   obtain rfl:i=8:=by omega
   refine⟨[(13,xv),(15,yv),(17,.int .i64 own),(18,.int .i64 8),(69,.bool false)],vW ?_,rfl⟩
   simp (disch:=omega)only[go_sem,yH,AP.f195L0]
 | n + 1, i, hi => by
   obtain⟨e',r1,r2⟩:=O3 h rx ry lx ly own ho n (i+1) (by omega)
   have w1:((i+1:Nat):Int)=(i:Int)+1:=by omega
   rw[w1]at r1
   refine⟨e',vX ?_ r1,r2⟩
   obtain⟨x,hx⟩:∃x,xs[i]?=some x:=⟨xs[i]'(by omega),by simp⟩
   obtain⟨ax,a1,a2⟩:=rx.zL
   obtain⟨ay,b1,b2⟩:=ry.zL
   have a3:=a1 i ⟨by omega,by omega⟩
   have b3:=b1 i ⟨by omega,by omega⟩
   have a4:=a2 h (Ext.refl _) i x hx
   by_cases c:i=own
   · have c':(i:Int)=own:=by omega
     clear rx ry a1 a2 b1 b2 r1 ho
     simp (disch:=omega)only[go_sem,yH,AP.f195L0,nef c']
   · have c':¬(i:Int)=own:=by omega
     have hy:ys[i]?=some x:=by rw[←ho i c];exact hx
     have b4:=b2 h (Ext.refl _) i x hy
     clear rx ry a1 a2 b1 b2 r1 ho
     simp (disch:=omega)only[go_sem,yH,AP.f195L0,net c',a3,a4,b3,b4]
theorem LR (L:List zu) (j:Nat) (hj:j<8):(AQ L)[j]?=some (AK (BR L j)):=by
 unfold AQ
 rw[ya,adw hj];rfl
set_option maxHeartbeats 4000000 in
theorem U9 (h:H) (v:AV) (l:List zq) (node which:Int) (s:ByteArray) (hvs:v.sc=true) (hn:l.length<1125899906842624) (rd:zZ 9 h v l.length (yR l)) (hv:∀x∈l,BU h x∧x.2.sc=true):aV AP.A 195 [.agg [v],.int .i64 node,.int .i64 which,.str s] h=some (.bool true,h):=by
 have k0:∀g,aV AP.A 176 [] g=some (.bool true,g):=PI
 have k9:=fun (g:H) n=>UH g n
 simp only[I]at k9
 obtain⟨h1,eh1⟩:∃g,g=h.eV.alloc [v]:=⟨_,rfl⟩
 obtain⟨NS,hNS⟩:∃NS:List AV,NS=[.str ⟨#[97]⟩,.str ⟨#[98]⟩,.str ⟨#[99,46,116,120,116]⟩,.str ⟨#[48]⟩]:=⟨_,rfl⟩
 obtain⟨h2,eh2⟩:∃g,g=h1.alloc NS:=⟨_,rfl⟩
 have n0:h.eV.next=h.next:=rfl
 have n1:h1.next=h.next+1:=by rw[eh1];simp
 have n2:h2.next=h.next+2:=by rw[eh2];simp [n1]
 have f2:h2.floor=h.next:=by rw[eh2,eh1];simp
 have x2:Ext h h2:=fun i c q=>by rw[eh2,eh1];exact(((Ext.refl h.eV).alloc _).alloc _) i c q
 have z0:h2.get h.next=some [v]:=by rw[eh2,yN (by omega),eh1];exact yG rfl
 have z1:h2.get (h.next+1)=some NS:=by rw[eh2,yG (by omega)]
 have e1:h.eV.alloc [v]=h1:=eh1.symm
 have e2:h1.alloc [.str ⟨#[97]⟩,.str ⟨#[98]⟩,.str ⟨#[99,46,116,120,116]⟩,.str ⟨#[48]⟩]=h2:=by rw[←hNS];exact eh2.symm
 obtain⟨j,hj4,hj⟩:∃j:Nat,j<4∧bits .and .i64 which 3=(j:Int):=⟨(which%4).toNat,by omega,by rw[YP];omega⟩
 obtain⟨nm,hix,hnm⟩:∃nm:ByteArray,NS[j]?=some (.str nm)∧nm.size<100:=by
  rw[hNS]
  match j,hj4 with
  |0,_=>exact⟨_,rfl,by decide⟩
  |1,_=>exact⟨_,rfl,by decide⟩
  |2,_=>exact⟨_,rfl,by decide⟩
  |3,_=>exact⟨_,rfl,by decide⟩
 have hnd:=YP node
 obtain⟨nd,hnd'⟩:∃nd,nd=node%4:=⟨_,rfl⟩
 rw[←hnd']at hnd
 obtain⟨L',err,k1,hL'⟩:=Qq h2 v l nd nm s hvs hn (rd.mono fun i c q=>x2 i c q) (fun x hx=>⟨(hv x hx).1.mono x2,(hv x hx).2⟩) (by omega)
 obtain⟨w,hw⟩:∃w,w=Ec L':=⟨_,rfl⟩
 have sw:w.sc=true:=by rw[hw];exact OK L'
 have cw:=A4 sw
 rw[←hw]at k1
 obtain⟨h3,eh3⟩:∃g,g=h2.alloc [.aT]:=⟨_,rfl⟩
 obtain⟨h4,eh4⟩:∃g,g=h3.set (h.next+2) [w]:=⟨_,rfl⟩
 have e3:h2.alloc [.aT]=h3:=eh3.symm
 have z3:h3.get (h.next+2)=some [.aT]:=by rw[eh3,yG (by omega)]
 have z4:h4.get (h.next+2)=some [w]:=by rw[eh4,yM rfl,z3];rfl
 have f3:h3.floor=h.next:=by rw[eh3];simp [f2]
 have f4:h4.floor=h.next:=by rw[eh4];simp [f3]
 have n4:h4.next=h.next+3:=by rw[eh4,eh3];simp [n2]
 have st4:wP h3 (h.next+2) 0 1 [w] (some [.aT])=some h4:=by rw[xm (by omega) (by simp) sw,eh4];rfl
 have x24:Ext h2 h4:=fun i c q=>by have:=h2.lt _ _ q;rw[eh4,yE (by omega),eh3,yN (by omega)];exact q
 have z40:=x24 _ _ z0
 by_cases ce:err=0
 · subst ce
   rcases hL' with hL'|⟨hm,hm',e,he,hL'⟩
   · exact absurd rfl hL'
   have x4:Ext h h4:=fun i c q=>x24 _ _ (x2 _ _ q)
   obtain⟨xv,h5,k5,g5⟩:=NF h4 (by omega) v l hvs hn (rd.mono fun i c q=>x4 i c q) (fun x hx=>⟨(hv x hx).1.mono x4,(hv x hx).2⟩)
   rw[if_pos hm]at k5 g5
   have z5:=g5.ext _ _ z4
   have f5:=g5.fl
   have n5:=g5.nx
   have il:(L'.map CN).map (·.1)=L':=by rw[adz,show((·.1)∘CN:zu→zu)=id from rfl,List.map_id]
   have hl':L'.length≤6:=by
    unfold Ai at hm'
    rw[xR]at hm'
    exact(zG hm'.1).1
   obtain⟨yv,h6,k6,g6⟩:=NF h5 (by omega) w (L'.map CN) sw (by rw[acV];omega) (by rw[hw];exact OJ h5 L') (TC h5 hm')
   rw[il,if_pos hm']at k6 g6
   have lx:=BI (l.map (·.1))
   have ly:=BI L'
   have rx0:=(g5.own.rd.mono fun i c q=>g6.ext _ _ q:zZ 1 h6 xv _ _)
   have ry0:=g6.own.rd
   have rx:Rd h6 xv (ints (AQ (l.map (·.1)))):=⟨by rw[rY];exact rx0.1,rx0.2.2⟩
   have ry:Rd h6 yv (ints (AQ L')):=⟨by rw[rY];exact ry0.1,ry0.2.2⟩
   have lenx:=rx0.len
   have leny:=ry0.len
   rw[lx]at lenx
   rw[ly]at leny
   have kb:=FB h6 nm (by omega)
   obtain⟨b,hb⟩:∃b,b=AH nm%8:=⟨_,rfl⟩
   rw[←hb]at kb
   have hb8:b<8:=by omega
   obtain⟨e',r1,r2⟩:=O3 h6 rx ry lx ly b (fun j hj=>by
    by_cases c:j<8
    · rw[LR _ _ c,LR _ _ c,hL',←he,Ju e j (by unfold KE;rw[he,←hb];exact fun q=>hj q.symm)]
    · rw[ac1 (by omega),ac1 (by omega)]) 8 0 rfl
   have r1':Lp AP.A [13,15,17,18] AP.f195L0 [(13,xv),(15,yv),(17,.int .i64 b),(18,.int .i64 0)] h6=some (.exit 0,e',h6):=r1
   have b0:(0:Int)≤(b:Int):=by omega
   have b8:(b:Int)<8:=by omega
   refine wN (fn:=AP.f195) (h2:=h6) (e:=[(8,.bool true)]) rfl rfl rfl ?_ rfl rfl
   clear rd hv x2 x24 x4 rx ry rx0 ry0 r1 g5 g6 hL' hm hm' hNS hw lx ly hb
   simp (disch:=omega)only[go_sem,yH,AP.f195,hvs,n0,e1,k0,n1,e2,hj,z1,hix,z0,hnd,k1,e3,n2,cw,z3,st4,z40,Bi,k5,z5,k6,k9,lenx,leny,kb,u9,r1',r2,dt b0,dt b8]
 · refine wN (fn:=AP.f195) (h2:=h4) (e:=[(8,.bool true)]) rfl rfl rfl ?_ rfl rfl
   clear rd hv x2 x24 hL' hNS hw
   simp (disch:=omega)only[go_sem,yH,AP.f195,hvs,n0,e1,k0,n1,e2,hj,z1,hix,z0,hnd,k1,e3,n2,cw,z3,st4,Bi,net ce]
theorem Ji (r:List (Ty×List AV)) (h:r.map (·.1)=[TB,F4,F4,YD]) (hp:∀x∈r,Sh reachBytes x.1 x.2):aV AP.A 195 (r.map lz) H.empty=some (.bool true,H.empty):=by
 obtain⟨x,y,z,w,rfl,h1,h2,h3,h4⟩:=acm h hp
 obtain⟨v,l,rfl,hv,rd,ok,hl⟩:=YB h1
 obtain⟨a,rfl,_⟩:=Eg h2
 obtain⟨b,rfl,_⟩:=Eg h3
 obtain⟨s,rfl,hs⟩:=N6 h4
 exact U9 H.empty v l a b s hv (by omega) (rd _) (fun x hx=>⟨(ok x hx).2.1 _,(ok x hx).1⟩)
end Ab
