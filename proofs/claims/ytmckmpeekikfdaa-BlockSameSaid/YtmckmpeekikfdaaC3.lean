/- Part C3. -/
import Derived.Test.YtmckmpeekikfdaaC2
set_option linter.unusedSimpArgs false
set_option linter.unusedVariables false
namespace Ab
open Go
theorem Ai (W : List Int) (F : List Bool) : ∀ (m i : Nat) (a : Int), (a = -1 ∧ (∀ j, j < i → F.getD j false = false)) ∨ (∃ k : Nat, a = k ∧ k < i ∧ F.getD k false = true ∧ (∀ j, j < i → F.getD j false = true → W.getD k 0 ≤ W.getD j 0) ∧ ∀ j, j < k → F.getD j false = true → W.getD k 0 < W.getD j 0) →
 (wk W F m i a= -1)∨(∃k:Nat,wk W F m i a=k∧∀j,j<k→F.getD j false=true→W.getD k 0<W.getD j 0)
 | 0, i, a, h => by
   rcases h with ⟨h,_⟩|⟨k,h,_,_,_,h2⟩
   · exact .inl h
   · exact .inr ⟨k,h,h2⟩
 | m + 1, i, a, h => by
   rw[wk]
   refine Ai W F m (i+1) _ ?_
   by_cases c:F.getD i false=true∧(a<0∨W.getD i 0<W.getD a.toNat 0)
   · rw [if_pos c]
     refine .inr ⟨i,rfl,by omega,c.1,fun j hj hf=> ?_,fun j hj hf=> ?_⟩
     · by_cases q:j=i
       · subst q;exact Rg _
       · rcases h with ⟨_,h2⟩|⟨k,rfl,h1,h2,h3,h4⟩
         · rw[h2 j (by omega)]at hf;cases hf
         · have:=h3 j (by omega) hf
           have tk:((k:Nat):Int).toNat=k:=by omega
           rw[tk]at c
           have:=c.2
           omega
     · rcases h with ⟨_,h2⟩|⟨k,rfl,h1,h2,h3,h4⟩
       · rw[h2 j (by omega)]at hf;cases hf
       · have:=h3 j (by omega) hf
         have tk:((k:Nat):Int).toNat=k:=by omega
         rw[tk]at c
         have:=c.2
         omega
   · rw [if_neg c]
     rcases h with ⟨rfl,h2⟩|⟨k,rfl,h1,h2,h3,h4⟩
     · refine .inl ⟨rfl,fun j hj=> ?_⟩
       by_cases q:j=i
       · subst q
         cases e:F.getD j false with
         |false=>rfl
         |true=>exact absurd ⟨e,.inl (by omega)⟩ c
       · exact h2 j (by omega)
     · refine .inr ⟨k,rfl,by omega,h2,fun j hj hf=> ?_,h4⟩
       by_cases q:j=i
       · subst q
         have tk:((k:Nat):Int).toNat=k:=by omega
         rw[tk]at c
         have:¬(W.getD j 0<W.getD k 0):=fun x=>c ⟨hf,.inr x⟩
         omega
       · exact h3 j (by omega) hf
theorem Fb {W:List Int} {F:List Bool} (h:0≤wk W F W.length 0 (-1)):∀j,j<wG W F→F.getD j false=true→W.getD (wG W F) 0<W.getD j 0:=by
 rcases Ai W F W.length 0 (-1) (.inl ⟨rfl,fun j hj=>by omega⟩)with q|⟨k,q,r⟩
 · omega
 · have ek:wG W F=k:=by unfold wG;rw[q];omega
   rw[ek];exact r
structure Tz where
 w:Int
 m:Int
 L:List Int
def JP (n N:Nat) (S:List Int) (r:Nat):Int:=if r<n then S.getD r 0 else(N:Int)+(r-n:Nat)
def wz (rc:Nat→Tz) (t:Nat):Int:=(rc t).w* 1000000+(rc t).m
def AL:List Int→List Int→List Int
 |O,[]=>O
 |O,s::r=>AL (wq O s.toNat) r
theorem Cb:∀(L O:List Int),(AL O L).length=O.length
 |[],O=>rfl
 |s::r,O=>by rw[AL,Cb r,wD]
theorem Na (O:List Int) (i q:Nat) (hi:i<O.length):(wq O i).getD q 0=O.getD q 0+if i=q then 1 else 0:=by
 unfold wq
 rw[QF,QU]
 by_cases c:i=q
 · subst c;rw[if_pos rfl,if_pos hi,if_pos rfl];rfl
 · rw[if_neg c,if_neg c,QF];omega
theorem D0:∀(L O:List Int) (q:Nat),(∀s∈L,s.toNat<O.length)→(AL O L).getD q 0=O.getD q 0+(L.map Int.toNat).count q
 |[],O,q,h=>by simp [AL]
 | s :: r, O, q, h => by
   rw[AL,D0 r _ q (fun t ht=>by rw[wD];exact h t (by simp [ht])),Na _ _ _ (h s (by simp)),QO,List.count_cons]
   by_cases c:s.toNat=q
   · subst c;simp;omega
   · simp [c]
structure zW (n N:Nat) (S:List Int):Prop where
 len:S.length=n
 Nm:∀s∈S,0≤s∧s<N
 inc:∀i j,i<j→j<n→S.getD i 0<S.getD j 0
 nd:(S.map Int.toNat).Nodup
theorem zW.at {n N:Nat} {S:List Int} (o:zW n N S) {i:Nat} (h:i<n):0≤S.getD i 0∧S.getD i 0<N:=by
 refine o.Nm _ ?_
 rw[QF,QH (by rw[o.len];exact h)]
 exact QW _
theorem zW.inj {n N:Nat} {S:List Int} (o:zW n N S) {i j:Nat} (hi:i<n) (hj:j<n) (h:S.getD i 0=S.getD j 0):i=j:=by
 rcases Nat.lt_trichotomy i j with q|q|q
 · have:=o.inc i j q hj;omega
 · exact q
 · have:=o.inc j i q hi;omega
theorem Nh {n N:Nat} {S:List Int} (o:zW n N S) {r q:Nat} (h:r<q):JP n N S r<JP n N S q:=by
 unfold JP
 by_cases c:q<n
 · rw[if_pos (by omega),if_pos c];exact o.inc r q h c
 · rw[if_neg c]
   split
   · rename_i a;have:=o.at a;omega
   · omega
structure Et (n N:Nat) (tot:Int) (S:List Int) (G s:FS) (rc:Nat→Tz) (tr:Nat→Tr) (l:List Nat) (O:List Int):Prop where
 hv:xO false n tot s (l.map tr)
 lw:s.W.length+l.length=2* n
 ll:l.length≤n
 fin:FS.xB (l.length-1) s=G
 so:zW n N S
 rel:∀t∈l,(rc t).w=s.W.getD (tr t).1 0∧(rc t).m=JP n N S (tr t).1∧(rc t).L=(tr t).2.map fun p=>S.getD p.1 0
 out:∀t∈l,∀p∈(tr t).2,O.getD (S.getD p.1 0).toNat 0=((p.2:Nat):Int)
 zero:∀q,(∀s∈S,s.toNat≠q)→O.getD q 0=0
 len:O.length=N
theorem Et.perm {n N:Nat} {tot:Int} {S:List Int} {G s:FS} {rc:Nat→Tz} {tr:Nat→Tr} {l l':List Nat} {O:List Int} (v:Et n N tot S G s rc tr l O) (p:l.Perm l'):Et n N tot S G s rc tr l' O where
 hv:=v.hv.perm (p.map tr)
 lw:=by rw[←p.length_eq];exact v.lw
 ll:=by rw[←p.length_eq];exact v.ll
 fin:=by rw[←p.length_eq];exact v.fin
 so:=v.so
 rel t h:=v.rel t (p.mem_iff.2 h)
 out t h:=v.out t (p.mem_iff.2 h)
 zero:=v.zero
 len:=v.len
theorem Fc {n N:Nat} {S W:List Int} {F:List Bool} (so:zW n N S) (hl:F.length=W.length) (hW:W.length<2* n) (hn:n≤1000) (hN:N≤1000) {rc:Nat→Tz} {tr:Nat→Tr} {l:List Nat} (hf:∀i,F.getD i false=true→∃t∈l,(tr t).1=i) (ht:∀t∈l,F.getD (tr t).1 false=true) (rel:∀t∈l,(rc t).w=W.getD (tr t).1 0∧(rc t).m=JP n N S (tr t).1) {t0:Nat} (h0:t0∈l) (hm:∀t∈l,wz rc t0≤wz rc t):
 (tr t0).1=wG W F∧0≤wk W F W.length 0 (-1)∧∀t∈l,W.getD (tr t0).1 0≤W.getD (tr t).1 0:=by
 obtain⟨l1,la,fa,ma⟩:=zD hl (ht t0 h0)
 obtain⟨ta,hta,ea⟩:=hf _ fa
 have fi:=Fb l1
 have mr:∀t∈l,0≤(rc t).m∧(rc t).m<1000000:=fun t h=>by
  rw[(rel t h).2]
  have lt:(tr t).1<W.length:=by
   have:=ht t h
   rw[QF]at this
   cases e:F[(tr t).1]? with
   |none=>rw[e]at this;cases this
   |some b=>have:=(um.1 e).1;omega
  unfold JP
  split
  · rename_i a;have:=so.at a;omega
  · omega
 have m1:=hm ta hta
 have w0:=ma (tr t0).1 (ht t0 h0)
 have r0:=rel t0 h0
 have ra:=rel ta hta
 have q0:=mr t0 h0
 have qa:=mr ta hta
 unfold wz at m1
 have ew:W.getD (tr t0).1 0=W.getD (wG W F) 0:=by rw[←ea]at w0 ⊢;rw[r0.1,ra.1]at m1;omega
 have em:(rc t0).m≤(rc ta).m:=by rw[r0.1,ra.1,ea,ew]at m1;omega
 have e1:(tr t0).1=wG W F:=by
  rcases Nat.lt_trichotomy (tr t0).1 (wG W F)with q|q|q
  · have:=fi _ q (ht t0 h0);omega
  · exact q
  · rw[←ea]at q
    have:=Nh so q
    rw[r0.2,ra.2]at em;omega
 refine⟨e1,l1,fun t h=> ?_⟩
 rw[ew];exact ma _ (ht t h)
theorem Et.step {n N : Nat} {tot : Int} {S : List Int} {G s : FS} {rc rc' : Nat → Tz} {tr : Nat → Tr} {l2 : List Nat} {O : List Int} {a b t : Nat} (v : Et n N tot S G s rc tr (a :: b :: l2) O) (hn : n ≤ 1000) (hN : N ≤ 1000) (ht : tot < 1000000000000000)
 (ha:∀t∈b::l2,wz rc a≤wz rc t) (hb:∀t∈l2,wz rc b≤wz rc t) (fr:∀x∈l2,x≠t) (er:∀x∈l2,rc' x=rc x)
 (et:rc' t=⟨(rc a).w+(rc b).w,((N+(n-(l2.length+2)):Nat):Int),(rc a).L++(rc b).L⟩):
 Et n N tot S G s.D5 rc' (fun x=>if x=t then(s.U.length,wJ ((tr a).2++(tr b).2))else tr x) (t::l2) (AL O ((rc a).L++(rc b).L))∧(∀q∈(rc a).L++(rc b).L,0≤q∧q<N)∧((rc a).L++(rc b).L).length≤n∧0<((rc a).L++(rc b).L).length:=by
 have lw:=v.lw
 have ll:=v.ll
 simp only[QG]at lw ll
 obtain⟨ea,l1,mA⟩:=Fc (F:=s.F) (W:=s.W) v.so v.hv.lf (by omega) hn hN (tr:=tr) (rc:=rc) (l:=a::b::l2) (fun i hi=>by
  obtain⟨x,hx,e⟩:=v.hv.free i hi
  obtain⟨y,hy,rfl⟩:=QP.1 hx
  exact⟨y,hy,e⟩) (fun x hx=>(v.hv.root _ (QP.2 ⟨x,hx,rfl⟩)).1) (fun x hx=>⟨(v.rel x hx).1,(v.rel x hx).2.1⟩) (t0:=a) (by simp) (fun x hx=>by
   rcases uO.1 hx with q|q
   · subst q;exact Rg _
   · exact ha x q)
 have nd:=v.hv.nd
 simp only[QO,Rk,uO,not_or]at nd
 obtain⟨⟨nab,na⟩,nb,n2⟩:=nd
 have naL:∀x∈b::l2,(tr x).1≠s.a:=fun x hx e=>by
  have e':(tr x).1=(tr a).1:=by rw[e,ea];rfl
  rcases uO.1 hx with q|q
  · subst q;exact nab e'.symm
  · exact na (QP.2 ⟨tr x,QP.2 ⟨x,q,rfl⟩,e'⟩)
 obtain⟨eb,l2',mB⟩:=Fc (F:=s.F1) (W:=s.W) v.so (by show(s.F.set s.a false).length=_;rw[Q1];exact v.hv.lf) (by omega) hn hN (tr:=tr) (rc:=rc) (l:=b::l2) (fun i hi=>by
  have hne:s.a≠i:=fun e=>by
   subst e
   have:(s.F.set s.a false).getD s.a false=true:=hi
   rw[yn]at this;cases this
  have hi':s.F.getD i false=true:=by
   have:(s.F.set s.a false).getD i false=true:=hi
   rwa [getD_set_ne hne]at this
  obtain⟨x,hx,e⟩:=v.hv.free i hi'
  obtain⟨y,hy,rfl⟩:=QP.1 hx
  rcases uO.1 hy with q|q
  · subst q;exact absurd (ea.symm.trans e) hne
  · exact⟨y,q,e⟩) (fun x hx=>by
    show(s.F.set s.a false).getD (tr x).1 false=true
    rw[getD_set_ne (fun e=>naL x hx e.symm)]
    exact(v.hv.root _ (QP.2 ⟨x,by simp only[uO]at hx ⊢;exact .inr hx,rfl⟩)).1) (fun x hx=>by
     have hx':x∈a::b::l2:=Rc _ hx
     exact⟨(v.rel x hx').1,(v.rel x hx').2.1⟩) (t0:=b) (by simp) (fun x hx=>by
    rcases uO.1 hx with q|q
    · subst q;exact Rg _
    · exact hb x q)
 have ea':(tr a).1=s.a:=ea
 have eb':(tr b).1=s.b:=eb
 obtain⟨ok,hv⟩:=v.hv.JB (T2:=l2.map tr) (ta:=tr a) (tb:=tr b) (Rf _) ea' eb' l1 l2' (by have:=mA b (by simp);rw[ea',eb']at this;exact this) (fun x hx=>by
  obtain⟨y,hy,rfl⟩:=QP.1 hx
  have:=mB y (by simp [hy]);rw[eb']at this;exact this) ht
 have tm:∀x∈l2,(if x=t then((s.U.length,wJ ((tr a).2++(tr b).2)):Tr)else tr x)=tr x:=fun x hx=>if_neg (fr x hx)
 have em:(t::l2).map (fun x=>if x=t then((s.U.length,wJ ((tr a).2++(tr b).2)):Tr)else tr x)=(s.U.length,wJ ((tr a).2++(tr b).2))::l2.map tr:=by
  rw[QO,if_pos rfl]
  congr 1
  exact Q9 tm
 have lv:=v.hv.leaves
 have lnd:(((a::b::l2).map tr).flatMap fun t=>t.2.map (·.1)).Nodup:=lv.nodup_iff.2 List.nodup_range
 have llt:∀x∈a::b::l2,∀p∈(tr x).2,p.1<n:=fun x hx p hp=>List.mem_range.1 (lv.mem_iff.1 (List.mem_flatMap.2 ⟨tr x,QP.2 ⟨x,hx,rfl⟩,QP.2 ⟨p,hp,rfl⟩⟩))
 have eL:(rc a).L++(rc b).L=((tr a).2++(tr b).2).map fun p=>S.getD p.1 0:=by
  rw[(v.rel a (by simp)).2.2,(v.rel b (by simp)).2.2,List.map_append]
 have ltab:∀p∈(tr a).2++(tr b).2,p.1<n:=fun p hp=>by
  rcases Q7.1 hp with q|q
  · exact llt a (by simp) p q
  · exact llt b (by simp) p q
 have rL:∀q∈(rc a).L++(rc b).L,0≤q∧q<N:=fun q hq=>by
  rw[eL]at hq
  obtain⟨p,hp,rfl⟩:=QP.1 hq
  exact v.so.at (ltab p hp)
 have rL2:∀q∈(rc a).L++(rc b).L,q.toNat<O.length:=fun q hq=>by have:=rL q hq;rw[v.len];omega
 have cnt1:∀k:Nat,k<n→(((rc a).L++(rc b).L).map Int.toNat).count (S.getD k 0).toNat=(((tr a).2++(tr b).2).map (·.1)).count k:=fun k hk=>by
  rw[eL,List.map_map]
  have:∀q:List (Nat×Nat),(∀p∈q,p.1<n)→(q.map (Int.toNat∘fun p=>S.getD p.1 0)).count (S.getD k 0).toNat=(q.map (·.1)).count k:=by
   intro q
   induction q with
   |nil=>intro _;rfl
   | cons p q ih =>
     intro h
     rw[QO,QO,List.count_cons,List.count_cons,ih fun p hp=>h p (by simp [hp])]
     have hp:=h p (by simp)
     have a1:=v.so.at hp
     have a2:=v.so.at hk
     congr 1
     by_cases c:p.1=k
     · simp [c]
     · have:¬(S.getD p.1 0).toNat=(S.getD k 0).toNat:=fun e=>c (v.so.inj hp hk (by omega))
       simp only[Function.comp_apply,beq_iff_eq,this,c,uS]
  exact this _ ltab
 rw[QO,QO,QM,QM,←QS,←List.map_append]at lnd
 have lnd1:=(List.nodup_append.1 lnd)
 refine⟨⟨by rw[em];exact hv,by rw[FS.G5];simp only[QG];omega,by simp only[QG];omega, ?_,v.so, ?_, ?_, ?_,by rw[Cb];exact v.len⟩,rL, ?_, ?_⟩
 · have:=v.fin
   simpa [FS.xB]using this
 · intro x hx
   rcases uO.1 hx with q|q
   · subst q
     rw[if_pos rfl,et]
     refine⟨?_, ?_, ?_⟩
     · show(rc a).w+(rc b).w=s.D5.W.getD s.U.length 0
       rw[(v.rel a (by simp)).1,(v.rel b (by simp)).1,ea',eb']
       show _=(s.W++[s.sum]).getD s.U.length 0
       have e:(s.W++[s.sum]).getD s.U.length 0=s.sum:=by rw[v.hv.lu,QF,QR (uv _)];simp
       rw[e];rfl
     · show _=JP n N S s.U.length
       have lu:=v.hv.lu
       unfold JP
       rw[if_neg (by omega)]
       show((N+(n-(l2.length+2)):Nat):Int)=(N:Int)+((s.U.length-n:Nat):Int)
       have:s.U.length-n=n-(l2.length+2):=by omega
       rw[this];omega
     · show(rc a).L++(rc b).L=_
       rw[eL];unfold wJ;rw[List.map_map];rfl
   · rw[tm x q,er x q]
     have:=v.rel x (by simp [q])
     refine⟨?_,this.2⟩
     have rr:=v.hv.root _ (QP.2 ⟨x,Rc _ (Rc _ q),rfl⟩)
     have lt:=(um.1 rr.2).1
     rw[this.1]
     show _=(s.W++[s.sum]).getD (tr x).1 0
     rw[QF,QF,QQ (by rw[←v.hv.lu];exact lt)]
 · intro x hx p hp
   rcases uO.1 hx with q|q
   · subst q
     rw[if_pos rfl]at hp
     obtain⟨p0,hp0,rfl⟩:=QP.1 hp
     have hlt:=ltab p0 hp0
     show(AL O _).getD (S.getD p0.1 0).toNat 0=((p0.2+1:Nat):Int)
     rw[D0 _ _ _ rL2,cnt1 _ hlt]
     have c1:(((tr a).2++(tr b).2).map (·.1)).count p0.1=1:=by rw[lnd1.1.count,if_pos (QP.2 ⟨p0,hp0,rfl⟩)]
     rw[c1]
     have o1:O.getD (S.getD p0.1 0).toNat 0=((p0.2:Nat):Int):=by
      rcases Q7.1 hp0 with z|z
      · exact v.out a (by simp) p0 z
      · exact v.out b (by simp) p0 z
     rw[o1];omega
   · rw[tm x q]at hp
     have hlt:=llt x (by simp [q]) p hp
     rw[D0 _ _ _ rL2,cnt1 _ hlt]
     have c0:(((tr a).2++(tr b).2).map (·.1)).count p.1=0:=List.count_eq_zero.2 fun hm=>
      lnd1.2.2 _ hm p.1 (List.mem_flatMap.2 ⟨tr x,QP.2 ⟨x,q,rfl⟩,QP.2 ⟨p,hp,rfl⟩⟩) rfl
     rw[c0,v.out x (by simp [q]) p hp];omega
 · intro q hq
   rw[D0 _ _ _ rL2,v.zero q hq]
   have:(((rc a).L++(rc b).L).map Int.toNat).count q=0:=List.count_eq_zero.2 fun hm=>by
    obtain⟨y,hy,rfl⟩:=QP.1 hm
    rw[eL]at hy
    obtain⟨p,hp,rfl⟩:=QP.1 hy
    have hp':=ltab p hp
    refine hq (S.getD p.1 0) ?_ rfl
    rw[QF,QH (by rw[v.so.len];exact hp')]
    exact QW _
   rw[this];rfl
 · have ln:=lv.length_eq
   rw[QO,QO,QM,QM,uR,uR,Ri,Ri,List.length_range]at ln
   rw[eL,Ri,uR];omega
 · have:=v.hv.ne (tr a) (by simp)
   rw[eL,Ri,uR]
   have:=List.length_pos_iff.2 this
   omega
theorem Et.init {N:Nat} {S ws:List Int} {rc:Nat→Tz} {l:List Nat} (so:zW ws.length N S) (pos:∀y∈ws,1≤y) (tr:Nat→Tr) (htr:l.map tr=T0 ws.length)
 (rel:∀t∈l,∃i,i<ws.length∧tr t=(i,[(i,0)])∧rc t=⟨ws.getD i 0,S.getD i 0,[S.getD i 0]⟩):
 Et ws.length N ws.sum S (FS.xB (ws.length-1) (Bq ws)) (Bq ws) rc tr l (List.replicate N 0) where
 hv:=by rw[htr];exact xO.init ws false pos (fun h=>by cases h)
 lw:=by
  have:l.length=ws.length:=by have:=Rh List.length htr;simpa [T0]using this
  rw[this];show ws.length+ws.length=_;omega
 ll:=by
  have:l.length=ws.length:=by have:=Rh List.length htr;simpa [T0]using this
  omega
 fin:=by
  have:l.length=ws.length:=by have:=Rh List.length htr;simpa [T0]using this
  rw[this]
 so:=so
 rel t ht:=by
  obtain⟨i,hi,e1,e2⟩:=rel t ht
  rw[e1,e2]
  refine⟨rfl, ?_,rfl⟩
  show S.getD i 0=JP _ _ _ i
  unfold JP;rw[if_pos hi]
 out t ht p hp:=by
  obtain⟨i,hi,e1,e2⟩:=rel t ht
  rw[e1]at hp
  simp at hp
  subst hp
  have:=so.at hi
  show(List.replicate N (0:Int)).getD (S.getD i 0).toNat 0=_
  rw[QF,Q3,if_pos (by omega)];rfl
 zero q _:=by
  rw[QF,Q3];split<;>rfl
 len:=by simp
theorem Et.Po {N : Nat} {S ws : List Int} {G : FS} {rc : Nat → Tz} {tr : Nat → Tr} {t : Nat} {O : List Int} {tot : Int} {s : FS} (hG : G = FS.xB (ws.length - 1) (Bq ws)) (v : Et ws.length N tot S G s rc tr [t] O) : O = vA S (u6 ws) (List.replicate N 0) := by
 have es:s=G:=v.fin
 have up:=v.hv.up
 have rt:=(v.hv.root (tr t) (by simp)).2
 have rtD:s.U.getD (tr t).1 (-1)= -1:=by rw[QF,rt];rfl
 have rl:=(um.1 rt).1
 have lv:=v.hv.leaves
 simp only[QO,Rj,QM,List.flatMap_nil,QY]at lv
 have dep:∀q∈(tr t).2,A4 s.U s.U.length (s.U.getD q.1 (-1))=q.2:=fun q hq=>by
  have:=v.hv.pt (tr t) (by simp) q hq
  have l:=Ej up this
  exact Ek up this rtD _ (by omega)
 have eD:u6 ws=DW s.U ws.length:=by rw[es,hG];rfl
 have dl:(u6 ws).length=ws.length:=vQ ws
 have nd:=v.so.nd
 have ol:=v.len
 apply List.ext_getElem?
 intro q
 by_cases hq:q<N
 · have e0:O[q]?=some (O.getD q 0):=by rw[QF,QH (by omega)];rfl
   rw[e0]
   by_cases c:∃s∈S,s.toNat=q
   · obtain⟨y,hy,rfl⟩:=c
     obtain⟨j,hj,ej⟩:=Rb.1 hy
     have hj':j<ws.length:=by rw[v.so.len]at hj;exact hj
     have h1:S[j]?=some y:=by rw[QH hj,ej]
     have eyD:S.getD j 0=y:=by rw[QF,h1];rfl
     obtain⟨p,hp,ep⟩:=QP.1 (lv.mem_iff.2 (List.mem_range.2 hj'))
     have o1:=v.out t (by simp) p hp
     rw[ep,eyD]at o1
     have h2:(u6 ws)[j]?=some ((p.2:Nat):Int):=by
      rw[eD];unfold DW
      rw[uG,Q8 hj']
      rw[←ep]
      show some ((A4 s.U s.U.length (s.U.getD p.1 (-1)):Nat):Int)=_
      rw[dep p hp]
     rw[wT S _ _ j y _ nd h1 h2 (by simpa using hq),o1]
   · have c':∀s∈S,s.toNat≠q:=fun s hs e=>c ⟨s,hs,e⟩
     rw[wc _ _ _ _ c',v.zero q c',Q3,if_pos hq]
 · rw[QT (by omega),QT (by rw[vV];simp;omega)]
def yo:List Int→Nat
 |[]=>0
 |c::r=>if c=0 then 0 else yo r+1
def xG (C:List Int):Nat:=(u0 C).length
def Cr (C:List Int):List Int:=if xG C=1 then C.set (yo C) 1 else C
theorem Fw (C:List Int):(Cr C).length=C.length:=by unfold Cr;split<;>simp
theorem DN:∀(C:List Int),(∀y∈C,0≤y)→u0 C=[]→∀y∈C,y=0
 |[],_,_,y,hy=>by simp at hy
 | c :: r, hp, h, y, hy => by
   rw[u0]at h
   by_cases q:0<c
   · rw[if_pos q]at h;cases h
   · rw[if_neg q]at h
     rcases uO.1 hy with z|z
     · have:=hp c (by simp);omega
     · exact DN r (fun y h=>hp y (by simp [h])) h y z
theorem Nj {C : List Int} (hC : ∀ y ∈ C, 0 ≤ y) (h2 : 2 ≤ C.length) : uZ 0 (Cr C) = vS C ∧ u0 (Cr C) = v8 C := by
 unfold vS v8 At Gn Cr xG
 rw[vw]
 by_cases c:(u0 C).length=1
 · rw [if_pos c, if_pos c, if_pos c]
   match C,h2 with
   | c0 :: c1 :: r, _ =>
     have p0:=hC c0 (by simp)
     have p1:=hC c1 (by simp)
     by_cases q:0<c0
     · have w1:(u0 (c1::r)).length=0:=by rw[u0,if_pos q]at c;simpa using c
       have wn:=Q2 w1
       have s1:uZ 1 (c1::r)=[]:=Q2 (by rw[vw,w1])
       have z1:=DN (c1::r) (fun y h=>hC y (by simp [h])) wn c1 (by simp)
       have i0:yo (c0::c1::r)=1:=by rw[yo,if_neg (by omega),yo,if_pos z1]
       have s2:uZ 2 r=[]:=by rw[uZ,if_neg (by omega)]at s1;exact s1
       have w2:u0 r=[]:=by rw[u0,if_neg (by omega)]at wn;exact wn
       rw[i0]
       have eS:uZ 0 (c0::c1::r)=[0]:=by rw[uZ,if_pos q,s1];rfl
       have eW:u0 (c0::c1::r)=[c0]:=by rw[u0,if_pos q,wn]
       rw[eS,eW]
       have e1:uZ 0 (c0::1::r)=[0,1]:=by rw[uZ,if_pos q,uZ,if_pos (by omega),s2];rfl
       have e2:u0 (c0::1::r)=[c0,1]:=by rw[u0,if_pos q,u0,if_pos (by omega),w2]
       exact⟨e1,e2⟩
     · have z0:c0=0:=by omega
       have i0:yo (c0::c1::r)=0:=by rw[yo,if_pos z0]
       rw[i0]
       have eS:uZ 0 (c0::c1::r)=uZ 1 (c1::r):=by rw[uZ,if_neg q]
       have eW:u0 (c0::c1::r)=u0 (c1::r):=by rw[u0,if_neg q]
       rw[eS,eW]
       rw[eW]at c
       have cS:(uZ 1 (c1::r)).length=1:=by rw[vw];exact c
       obtain⟨s,es⟩:=List.length_eq_one_iff.1 cS
       obtain⟨w,ew⟩:=List.length_eq_one_iff.1 c
       have sr:=wv 1 (c1::r) s (by rw[es];simp)
       have e1:uZ 0 (1::c1::r)=0::uZ 1 (c1::r):=by rw[uZ,if_pos (by omega)];rfl
       have e2:u0 (1::c1::r)=1::u0 (c1::r):=by rw[u0,if_pos (by omega)]
       have e3:(c0::c1::r).set 0 1=1::c1::r:=rfl
       rw[e3,e1,e2,es,ew]
       have g:[s].getD 0 0=s:=rfl
       rw[g,if_pos (by omega),if_pos (by omega)]
       exact⟨rfl,rfl⟩
 · rw[if_neg c,if_neg c,if_neg c];exact⟨rfl,rfl⟩
theorem Bn:∀(i:Nat) (C:List Int),(∀y∈C,0≤y)→uZ i (vM C)=uZ i C∧u0 (vM C)=vM (u0 C)
 |i,[],_=>⟨rfl,rfl⟩
 | i, c :: r, h => by
   have hc:=h c (by simp)
   obtain⟨a,b⟩:=Bn (i+1) r fun y hy=>h y (by simp [hy])
   show uZ i (xJ c::vM r)=_∧u0 (xJ c::vM r)=_
   rw[uZ,uZ,u0,u0,a,b]
   have e:0<xJ c↔0<c:=by unfold xJ;omega
   by_cases q:0<c
   · rw[if_pos (e.2 q),if_pos (e.2 q),if_pos q,if_pos q];exact⟨rfl,rfl⟩
   · rw[if_neg (fun z=>q (e.1 z)),if_neg (fun z=>q (e.1 z)),if_neg q,if_neg q];exact⟨rfl,rfl⟩
theorem zR : ∀ (i : Nat) (C : List Int) (j k : Nat), j < k → k < (uZ i C).length → (uZ i C).getD j 0 < (uZ i C).getD k 0
 |i,[],j,k,h,hk=>by simp [uZ]at hk
 | i, c :: r, j, k, h, hk => by
   rw[uZ]at hk ⊢
   split
   · rename_i q
     rw[if_pos q]at hk
     obtain⟨k,rfl⟩:∃m,k=m+1:=⟨k-1,by omega⟩
     simp only[QG]at hk
     cases j with
     | zero =>
       have hm:(uZ (i+1) r).getD k 0∈uZ (i+1) r:=by rw[QF,QH (by omega)];exact QW _
       have:=wv (i+1) r _ hm
       show(i:Int)<(uZ (i+1) r).getD k 0
       omega
     |succ j=>exact zR (i+1) r j k (by omega) (by omega)
   · rename_i q
     rw[if_neg q]at hk
     exact zR (i+1) r j k h hk
theorem DJ (C:List Int):zW (u0 C).length C.length (uZ 0 C):=
 ⟨vw 0 C,fun s hs=>by have:=wv 0 C s hs;omega,fun i j h1 h2=>zR 0 C i j h1 (by rw[vw];exact h2),AZ C 0⟩
theorem CC {S D:List Int} {n:Nat} (hl:D.length=S.length) (nd:(S.map Int.toNat).Nodup) (hr:∀s∈S,s.toNat<n) {m:Int} (hm:0≤m):(∀y∈vA S D (List.replicate n 0),y≤m)↔zG D 0≤m:=by
 constructor
 · intro h
   refine Am D 0 m (fun d hd=> ?_) hm
   obtain⟨j,hj,ej⟩:=Rb.1 hd
   have h1:S[j]?=some (S[j]'(by omega)):=QH (by omega)
   have h2:D[j]?=some d:=by rw[QH hj,ej]
   exact h d (uz (wT S D (List.replicate n 0) j _ d nd h1 h2 (by simpa using hr _ (QW _))))
 · intro h y hy
   obtain⟨p,hp,ep⟩:=Rb.1 hy
   have e:(vA S D (List.replicate n 0))[p]?=some y:=by rw[QH hp,ep]
   by_cases c:∃s∈S,s.toNat=p
   · obtain⟨s,hs,rfl⟩:=c
     obtain⟨j,hj,ej⟩:=Rb.1 hs
     have h1:S[j]?=some s:=by rw[QH hj,ej]
     have h2:D[j]?=some (D[j]'(by omega)):=QH (by omega)
     rw[wT S D _ j s _ nd h1 h2 (by simpa using hr s hs)]at e
     have e:=ud e
     have:=(BB D 0).2 _ (QW (show j<D.length by omega))
     omega
   · have c':∀s∈S,s.toNat≠p:=fun s hs q=>c ⟨s,hs,q⟩
     rw[wc _ _ _ _ c',Q3]at e
     split at e
     · obtain rfl:=ud e;exact hm
     · cases e
end Ab
set_option maxRecDepth 100000
namespace Ab
open Go
def vT (l:List Nat):List AV:=l.map fun t=>AV.aC t 0
theorem wX (l:List Nat):(vT l).length=l.length:=by simp [vT]
theorem yR {l:List Nat} {J:List AV} {i:Nat} (h:i<l.length):(vT l++J)[i]?=some (.aC (l.getD i 0) 0):=by
 rw[QQ (by rw[wX];exact h),vT,uG,QF,QH h];rfl
theorem yJ {l:List Nat} {i:Nat} (h:i<l.length):l.getD i 0∈l:=by
 rw[QF,QH h];exact QW h
structure Hz (h:H) (a id:Nat) (l:List Nat) (J:List AV) (rc:Nat→Tz):Prop where
 ga:h.get a=some [.aD id 0 l.length 1]
 gi:h.get id=some (vT l++J)
 fa:h.floor≤a
 fi:h.floor≤id
 ne:a≠id
 tr:∀t∈l,t≠a∧t≠id∧(0≤(rc t).m∧(rc t).m<1000000)∧∃sv,h.get t=some [.int .i64 (rc t).w,.int .i64 (rc t).m,sv]
 lb:l.length<100000
theorem Hz.set {h:H} {a id:Nat} {l l':List Nat} {J:List AV} {rc:Nat→Tz} (z:Hz h a id l J rc) (p:l'.Perm l):Hz (h.set id (vT l'++J)) a id l' J rc where
 ga:=by rw[uV z.ne,z.ga,p.length_eq]
 gi:=by rw[vi rfl,z.gi];rfl
 fa:=by simpa using z.fa
 fi:=by simpa using z.fi
 ne:=z.ne
 tr t ht:=by
  obtain⟨a1,a2,a3,sv,a4⟩:=z.tr t (p.mem_iff.1 ht)
  exact⟨a1,a2,a3,sv,by rw[uV a2];exact a4⟩
 lb:=by rw[p.length_eq];exact z.lb
theorem B8 (h:H) (id n:Nat):aQ AP.A 363 [.aD id 0 n 1] h=some (.int .i64 n,h):=by
 refine sY (fn:=AP.f363) (e:=[(2,.int .i64 n)]) (vs:=[.int .i64 n]) rfl rfl rfl (by simp (disch:=omega)only[go_sem,vo,AP.f363,yE]) rfl
theorem Nd {h:H} {a id:Nat} {l:List Nat} {J:List AV} {rc:Nat→Tz} (z:Hz h a id l J rc) {i j:Nat} (hi:i<l.length) (hj:j<l.length):
 aQ AP.A 368 [.aD id 0 l.length 1,.int .i64 i,.int .i64 j] h=some (.bool (decide (wz rc (l.getD i 0)<wz rc (l.getD j 0))),h):=by
 obtain⟨_,_,mi,si,gi⟩:=z.tr _ (yJ hi)
 obtain⟨_,_,mj,sj,gj⟩:=z.tr _ (yJ hj)
 have pi:=yR (J:=J) hi
 have pj:=yR (J:=J) hj
 have gid:=z.gi
 unfold wz
 generalize vT l++J=P at *
 generalize l.getD i 0=ti at *
 generalize l.getD j 0=tj at *
 generalize (rc ti).w=wi at *
 generalize (rc ti).m=mmi at *
 generalize (rc tj).w=wj at *
 generalize (rc tj).m=mmj at *
 generalize l.length=n at *
 clear z
 have i1:fB 1 (.aD id 0 n 1) (.int .i64 i)=some (.aC id i):=by
  simp [fB,cG,nh,hi]
 have j1:fB 1 (.aD id 0 n 1) (.int .i64 j)=some (.aC id j):=by
  simp [fB,cG,nh,hj]
 by_cases c:wi=wj
 · have e:decide (wi* 1000000+mmi<wj* 1000000+mmj)=decide (mmi<mmj):=decide_eq_decide.2 (by omega)
   rw[e]
   have cb:(wi !=wj)=false:=by simp [c]
   refine sY (fn:=AP.f368) (e:=[(6,.bool (decide (mmi<mmj)))]) (vs:=[.bool (decide (mmi<mmj))]) rfl rfl rfl ?_ rfl
   simp (disch:=omega)only[go_sem,vo,AP.f368,i1,j1,gid,pi,pj,gi,gj,cb]
 · have e:decide (wi* 1000000+mmi<wj* 1000000+mmj)=decide (wi<wj):=decide_eq_decide.2 (by omega)
   rw[e]
   have cb:(wi !=wj)=true:=by simp [c]
   refine sY (fn:=AP.f368) (e:=[(6,.bool (decide (wi<wj)))]) (vs:=[.bool (decide (wi<wj))]) rfl rfl rfl ?_ rfl
   simp (disch:=omega)only[go_sem,vo,AP.f368,i1,j1,gid,pi,pj,gi,gj,cb]
theorem Jj {l:List Nat} {J:List AV} {i j:Nat} (hi:i<l.length) (hj:j<l.length):((vT l++J).set i (.aC (l.getD j 0) 0)).set j (.aC (l.getD i 0) 0)=vT (Ax l i j)++J:=by
 rw[List.set_append_left _ _ (by rw[wX];exact hi),List.set_append_left _ _ (by rw[Q1,wX];exact hj)]
 unfold vT Ax
 rw[List.map_set,List.map_set]
theorem Ns {h:H} {a id:Nat} {l:List Nat} {J:List AV} {rc:Nat→Tz} (z:Hz h a id l J rc) {i j:Nat} (hi:i<l.length) (hj:j<l.length):
 aQ AP.A 369 [.aD id 0 l.length 1,.int .i64 i,.int .i64 j] h=some (.bJ [],h.set id (vT (Ax l i j)++J)):=by
 have pi:=yR (J:=J) hi
 have pj:=yR (J:=J) hj
 have gid:=z.gi
 have fi:=z.fi
 have e:=Jj (J:=J) hi hj
 have pl:l.length≤(vT l++J).length:=by rw[uR,wX];omega
 rw[←e]
 generalize vT l++J=P at *
 generalize l.getD i 0=ti at *
 generalize l.getD j 0=tj at *
 generalize l.length=n at *
 clear z e
 have i1:fB 1 (.aD id 0 n 1) (.int .i64 i)=some (.aC id i):=by
  simp [fB,cG,nh,hi]
 have j1:fB 1 (.aD id 0 n 1) (.int .i64 j)=some (.aC id j):=by
  simp [fB,cG,nh,hj]
 have e2:(h.set id (P.set i (.aC tj 0))).set id ((P.set i (.aC tj 0)).set j (.aC ti 0))=h.set id ((P.set i (.aC tj 0)).set j (.aC ti 0)):=H.set_set _ _ _ _
 rw[←e2]
 have g2:(h.set id (P.set i (.aC tj 0))).get id=some (P.set i (.aC tj 0)):=by rw[vi rfl,gid];rfl
 refine vJ (fn:=AP.f369) (e:=[]) (vs:=[]) rfl rfl rfl ?_ rfl
 simp (disch:=omega)only[go_sem,vo,AP.f369,i1,j1,gid,pi,pj,g2]
theorem Gg {h:H} {a id:Nat} {l:List Nat} {J:List AV} {rc:Nat→Tz} (z:Hz h a id l J rc) {i j:Nat} {x y:Int} (hx:x=i) (hy:y=j) (hi:i<l.length) (hj:j<l.length):
 aQ AP.A 368 [.aD id 0 l.length 1,.int .i64 x,.int .i64 y] h=some (.bool (decide (wz rc (l.getD i 0)<wz rc (l.getD j 0))),h):=by subst hx;subst hy;exact Nd z hi hj
theorem Gx {h:H} {a id:Nat} {l:List Nat} {J:List AV} {rc:Nat→Tz} (z:Hz h a id l J rc) {i j:Nat} {x y:Int} (hx:x=i) (hy:y=j) (hi:i<l.length) (hj:j<l.length):
 aQ AP.A 369 [.aD id 0 l.length 1,.int .i64 x,.int .i64 y] h=some (.bJ [],h.set id (vT (Ax l i j)++J)):=by subst hx;subst hy;exact Ns z hi hj
abbrev AK (a:Nat):AV:=.iface 1 (.aC a 0)
theorem Da {h:H} {a n i:Nat} {i0:Int} (hn:n<100000) (hi:n≤2* i+1) (hi2:i<100000):
 aK (aQ AP.A) bo AP.f366L0 [(0,AK a),(1,.int .i64 i0),(2,.int .i64 n),(7,.int .i64 i)] h=some (.exit 0,[(0,AK a),(1,.int .i64 i0),(2,.int .i64 n),(7,.int .i64 i),(8,.int .i64 (2* (i:Int)+1)),(21,.bool true)],h):=by
 have c:(n:Int)≤2* (i:Int)+1:=by omega
 simp (disch:=omega)only[go_sem,vo,AP.f366L0,c]
theorem Ga {h : H} {a id : Nat} {l : List Nat} {J : List AV} {rc : Nat → Tz} (z : Hz h a id l J rc) {n i : Nat} {i0 : Int} (hn : n ≤ l.length) (hi : 2 * i + 1 < n) :
 (wz rc (l.getD (CS (wz rc) n i l) 0)<wz rc (l.getD i 0)→aK (aQ AP.A) bo AP.f366L0 [(0,AK a),(1,.int .i64 i0),(2,.int .i64 n),(7,.int .i64 i)] h=some (.normal,[(0,AK a),(1,.int .i64 i0),(2,.int .i64 n),(7,.int .i64 (CS (wz rc) n i l:Nat))],h.set id (vT (Ax l i (CS (wz rc) n i l))++J)))∧
 (¬wz rc (l.getD (CS (wz rc) n i l) 0)<wz rc (l.getD i 0)→aK (aQ AP.A) bo AP.f366L0 [(0,AK a),(1,.int .i64 i0),(2,.int .i64 n),(7,.int .i64 i)] h=some (.exit 0,[(0,AK a),(1,.int .i64 i0),(2,.int .i64 n),(7,.int .i64 i),(9,.int .i64 (CS (wz rc) n i l:Nat)),(39,.bool true)],h)):=by
 obtain⟨kr,kn⟩:=BA (ky:=wz rc) (n:=n) (i:=i) (l:=l) hi
 have lb:=z.lb
 have c0:¬(n:Int)≤2* (i:Int)+1:=by omega
 have ga:=z.ga
 have key:∀x:Int,x=(CS (wz rc) n i l:Nat)→x<1000000→(2* (i:Int)+1+1<n→aQ AP.A 368 [.aD id 0 l.length 1,.int .i64 (2* (i:Int)+1+1),.int .i64 (2* (i:Int)+1)] h=some (.bool (decide (x=2* (i:Int)+1+1)),h))∧(¬2* (i:Int)+1+1<n→x=2* (i:Int)+1)∧(x=2* (i:Int)+1∨x=2* (i:Int)+1+1):=by
  intro x hx hx2
  refine⟨fun c=> ?_,fun c=>by omega,by omega⟩
  rw[Gg z (i:=2* i+2) (j:=2* i+1) (by omega) (by omega) (by omega) (by omega)]
  congr 3
  have:CS (wz rc) n i l=2* i+2↔wz rc (l.getD (2* i+2) 0)<wz rc (l.getD (2* i+1) 0):=by
   unfold CS
   by_cases q:wz rc (l.getD (2* i+2) 0)<wz rc (l.getD (2* i+1) 0)
   · rw[if_pos ⟨by omega,q⟩];exact⟨fun _=>q,fun _=>rfl⟩
   · rw[if_neg (fun z=>q z.2)];exact⟨fun z=>by omega,fun z=>absurd z q⟩
  exact decide_eq_decide.2 (by rw[←this];omega)
 generalize hk:CS (wz rc) n i l=k at *
 obtain⟨k1,k2,k3⟩:=key k rfl (by omega)
 have lk:=Gg z (x:=k) (y:=i) rfl rfl (by omega) (by omega)
 have sk:=Gx z (x:=i) (y:=k) rfl rfl (by omega) (by omega)
 constructor
 · intro c
   rw[QL c]at lk
   by_cases c1:2* (i:Int)+1+1<n
   · have k1':=k1 c1
     rcases k3 with e|e
     · have e2:decide ((k:Int)=2* (i:Int)+1+1)=false:=QJ (by omega)
       rw[e2]at k1'
       rw[e]at lk sk ⊢
       clear z key k1 k2
       simp (disch:=omega)only[go_sem,vo,AP.f366L0,c0,c1,ga,k1',lk,sk]
     · have e2:decide ((k:Int)=2* (i:Int)+1+1)=true:=QL (by omega)
       rw[e2]at k1'
       rw[e]at lk sk ⊢
       clear z key k1 k2
       simp (disch:=omega)only[go_sem,vo,AP.f366L0,c0,c1,ga,k1',lk,sk]
   · rw[k2 c1]at lk sk ⊢
     clear z key k1 k2
     simp (disch:=omega)only[go_sem,vo,AP.f366L0,c0,c1,ga,lk,sk]
 · intro c
   rw[QJ c]at lk
   by_cases c1:2* (i:Int)+1+1<n
   · have k1':=k1 c1
     rcases k3 with e|e
     · have e2:decide ((k:Int)=2* (i:Int)+1+1)=false:=QJ (by omega)
       rw[e2]at k1'
       rw[e]at lk ⊢
       clear z key k1 k2 sk
       simp (disch:=omega)only[go_sem,vo,AP.f366L0,c0,c1,ga,k1',lk]
     · have e2:decide ((k:Int)=2* (i:Int)+1+1)=true:=QL (by omega)
       rw[e2]at k1'
       rw[e]at lk ⊢
       clear z key k1 k2 sk
       simp (disch:=omega)only[go_sem,vo,AP.f366L0,c0,c1,ga,k1',lk]
   · rw[k2 c1]at lk ⊢
     clear z key k1 k2 sk
     simp (disch:=omega)only[go_sem,vo,AP.f366L0,c0,c1,ga,lk]
theorem Db {a id : Nat} {J : List AV} {rc : Nat → Tz} {n : Nat} {i0 : Int} : ∀ (f i : Nat) (l : List Nat) (h : H), Hz h a id l J rc → n ≤ l.length → n ≤ i + f → i < 100000 →
 ∃e' k,Lp AP.A [0,1,2,7] AP.f366L0 [(0,AK a),(1,.int .i64 i0),(2,.int .i64 n),(7,.int .i64 i)] h=some (.exit 0,e',h.set id (vT (sink (wz rc) n f i l)++J))∧look e' 1=.int .i64 i0∧look e' 7=.int .i64 k
 | 0, i, l, h, z, hn, hf, hi => by
   rw[sink,H.jh z.gi]
   exact⟨_,i,sJ (Da (by have:=z.lb;omega) (by omega) hi),rfl,rfl⟩
 | f + 1, i, l, h, z, hn, hf, hi => by
   have lb:=z.lb
   rw[sink]
   by_cases c0:n≤2* i+1
   · rw[if_pos c0,H.jh z.gi]
     exact⟨_,i,sJ (Da (by omega) c0 hi),rfl,rfl⟩
   · rw[if_neg c0]
     obtain⟨r1,r2⟩:=Ga z (i0:=i0) hn (show 2* i+1<n by omega)
     obtain⟨kr,kn⟩:=BA (ky:=wz rc) (n:=n) (i:=i) (l:=l) (by omega)
     by_cases c1:wz rc (l.getD (CS (wz rc) n i l) 0)<wz rc (l.getD i 0)
     · rw[if_pos c1]
       have r1:=r1 c1
       generalize CS (wz rc) n i l=k at *
       have zs:=z.set (yc (l:=l) (i:=i) (j:=k) (by omega) (by omega))
       obtain⟨e',m,k1,k2,k3⟩:=Db f k _ _ zs (by rw[xi];exact hn) (by omega) (by omega)
       rw[H.set_set]at k1
       exact⟨e',m,sK r1 k1,k2,k3⟩
     · rw[if_neg c1,H.jh z.gi]
       exact⟨_,i,sJ (r2 c1),rfl,rfl⟩
theorem IE {h:H} {a id:Nat} {l:List Nat} {J:List AV} {rc:Nat→Tz} (z:Hz h a id l J rc) {n i:Nat} (hn:n≤l.length) (hi:i<100000):
 ∃b,aQ AP.A 366 [AK a,.int .i64 i,.int .i64 n] h=some (.bool b,h.set id (vT (sink (wz rc) n n i l)++J)):=by
 obtain⟨e',k,L,e1,e7⟩:=Db (i0:=i) n i l h z hn (by omega) hi
 refine⟨decide ((i:Int)<k),sY (fn:=AP.f366) (e:=[(6,.bool (decide ((i:Int)<k)))]) (vs:=[.bool (decide ((i:Int)<k))]) rfl rfl rfl ?_ rfl⟩
 simp (disch:=omega)only[go_sem,vo,AP.f366,rH,L,qJ,qZ,e1,e7]
theorem Di {a id:Nat} {J:List AV} {rc:Nat→Tz} {n:Nat}:∀(i:Nat) (l:List Nat) (h:H),Hz h a id l J rc→l.length=n→i<100000→
 ∃e',Lp AP.A [0,2,3] AP.f362L0 [(0,AK a),(2,.int .i64 n),(3,.int .i64 ((i:Int)-1))] h=some (.exit 0,e',h.set id (vT (yK (ky:=wz rc) n i l)++J))
 | 0, l, h, z, hn, hi => by
   rw[yK,H.jh z.gi]
   refine⟨[(0,AK a),(2,.int .i64 n),(3,.int .i64 (-1)),(10,.bool false)],sJ ?_⟩
   have c:¬(0:Int)≤-1:=by omega
   show aK (aQ AP.A) bo AP.f362L0 [(0,AK a),(2,.int .i64 n),(3,.int .i64 (-1))] h=_
   simp (disch:=omega)only[go_sem,vo,AP.f362L0,c]
 | i + 1, l, h, z, hn, hi => by
   have lb:=z.lb
   obtain⟨b,k⟩:=IE z (n:=n) (i:=i) (by omega) (by omega)
   have e0:((i+1:Nat):Int)-1=(i:Int):=by omega
   have c:(0:Int)≤(i:Int):=by omega
   have zs:=z.set (l':=sink (wz rc) n n i l) (DF (by omega))
   obtain⟨e',L⟩:=Di (n:=n) i _ _ zs (by rw[Aw];exact hn) (by omega)
   rw[H.set_set]at L
   refine⟨e',sK (e':=[(0,AK a),(2,.int .i64 n),(3,.int .i64 ((i:Int)-1))]) ?_ (by rw[yK];exact L)⟩
   rw[e0]
   simp (disch:=omega)only[go_sem,vo,AP.f362L0,c,k]
theorem Gd {n:Nat} (h:n<100000):bh .quo (.int .i64 (n:Int)) (.int .i64 2)=some (.int .i64 ((n/2:Nat):Int)):=by
 have e:=rk (k:=.i64) (a:=(n:Int)) (b:=2) (by omega)
 have:Int.tdiv (n:Int) 2=((n/2:Nat):Int):=ye n 2
 rw[e,this,wi (by omega)]
theorem J8 {h:H} {a id:Nat} {l:List Nat} {J:List AV} {rc:Nat→Tz} (z:Hz h a id l J rc):
 aQ AP.A 362 [AK a] h=some (.bJ [],h.set id (vT (yK (ky:=wz rc) l.length (l.length/2) l)++J)):=by
 have lb:=z.lb
 have ga:=z.ga
 have k:∀g:H,aQ AP.A 363 [.aD id 0 l.length 1] g=_:=fun g=>B8 g id l.length
 obtain⟨e',L⟩:=Di (n:=l.length) (l.length/2) l h z rfl (by omega)
 have q:=Gd lb
 refine vJ (fn:=AP.f362) (e:=[]) (vs:=[]) rfl rfl rfl ?_ rfl
 generalize vT (yK (ky:=wz rc) l.length (l.length/2) l)=P at *
 generalize l.length=n at *
 clear z
 simp (disch:=omega)only[go_sem,vo,AP.f362,ga,k,q,rH,L]
theorem O7 {h:H} {a id:Nat} {l:List Nat} {t:Nat} {J:List AV} {rc:Nat→Tz} (z:Hz h a id (l++[t]) J rc):
 aQ AP.A 370 [.aC a 0] h=some (.iface 2 (.aC t 0),h.set a [.aD id 0 l.length 1])∧Hz (h.set a [.aD id 0 l.length 1]) a id l (.aC t 0::J) rc:=by
 have lb:=z.lb
 have ga:=z.ga
 have gi:=z.gi
 have fa:=z.fa
 have pt:=yR (J:=J) (show l.length<(l++[t]).length by simp)
 have gt:(l++[t]).getD l.length 0=t:=by simp
 rw[gt]at pt
 have eP:vT (l++[t])++J=vT l++(.aC t 0::J):=by simp [vT]
 constructor
 · have lP:l.length+1≤(vT (l++[t])++J).length:=by rw[uR,wX];simp
   rw[uR,List.length_singleton]at lb ga
   generalize vT (l++[t])++J=P at *
   generalize l.length=n at *
   clear z eP gt
   have i1:fB 1 (.aD id 0 (n+1) 1) (.int .i64 n)=some (.aC id n):=by simp [fB,cG,nh,show(n:Int)<(n:Int)+1 by omega]
   have s1:rz h 1 (.aD id 0 (n+1) 1) none (some (.int .i64 n)) none=some (.aD id 0 n 1):=by
    have:=KJ (m:=n) (p:=id) (o:=0) (k:=n+1) gi (n:=1) (by omega) (by omega) ⟨by omega,by simp;omega⟩
    rw[show((n:Int)).toNat=n by omega]at this
    exact this
   have n1:((n+1:Nat):Int)-1=n:=by omega
   refine sY (fn:=AP.f370) (e:=[(2,.iface 2 (.aC t 0))]) (vs:=[.iface 2 (.aC t 0)]) rfl rfl rfl ?_ rfl
   simp (disch:=omega)only[go_sem,vo,AP.f370,ga,yE,n1,i1,gi,pt,s1]
 · refine⟨by rw[vi rfl,ga];rfl,by rw[uV (fun q=>z.ne q.symm),gi,eP],by simpa using fa,by simpa using z.fi,z.ne,fun x hx=> ?_,by simp at lb;omega⟩
   obtain⟨a1,a2,a3,sv,a4⟩:=z.tr x (by simp [hx])
   exact⟨a1,a2,a3,sv,by rw[uV a1];exact a4⟩
theorem IX {h:H} {a id:Nat} {l:List Nat} {J:List AV} {rc:Nat→Tz} (z:Hz h a id l J rc) (h1:1≤l.length) (ho:FZ (wz rc) 0 l.length l):
 ∃t l' h',aQ AP.A 364 [AK a] h=some (.iface 2 (.aC t 0),h')∧Hz h' a id l' (.aC t 0::J) rc∧l.Perm (t::l')∧FZ (wz rc) 0 l'.length l'∧(∀x∈l',wz rc t≤wz rc x)∧h'.next=h.next∧h'.floor=h.floor∧∀i,i≠a→i≠id→h'.get i=h.get i:=by
 have lb:=z.lb
 have ga:=z.ga
 obtain⟨n,hn⟩:∃n,l.length=n+1:=⟨l.length-1,by omega⟩
 have k0:∀g:H,aQ AP.A 363 [.aD id 0 l.length 1] g=_:=fun g=>B8 g id l.length
 have k1:=Gx z (i:=0) (j:=n) (x:=0) (y:=n) rfl rfl (by omega) (by omega)
 have p1:=yc (l:=l) (i:=0) (j:=n) (by omega) (by omega)
 have z1:=z.set p1
 have z1a:=z1.ga
 have g:∀k,(Ax l 0 n).getD k 0=if k=n then l.getD 0 0 else if k=0 then l.getD n 0 else l.getD k 0:=fun k=>Er (by omega) (by omega)
 have sl1:(Ax l 0 n).length=n+1:=by rw[xi];exact hn
 obtain⟨b,k2⟩:=IE z1 (n:=n) (i:=0) (by omega) (by omega)
 obtain⟨s1,s2,s3⟩:=Eo (ky:=wz rc) (lo:=0) (n:=n) n 0 (Ax l 0 n) (by omega) (by omega) (by omega) ⟨fun c h0 hc hp hne=>by
  rw[g,g,if_neg (by omega),if_neg hne,if_neg (by omega),if_neg (by omega)]
  exact ho c h0 (by omega) (by omega),fun c h0 hc hp h1 h2=>by omega⟩
 have z2:=z1.set s2
 have sl2:(sink (wz rc) n n 0 (Ax l 0 n)).length=n+1:=by rw[Aw];exact sl1
 have e3:=s3 n (uv _)
 rw[g,if_pos rfl]at e3
 obtain⟨l',hl'⟩:∃l',l'=(sink (wz rc) n n 0 (Ax l 0 n)).take n:=⟨_,rfl⟩
 have ll':l'.length=n:=by rw[hl',Q6,sl2];omega
 have eS:sink (wz rc) n n 0 (Ax l 0 n)=l'++[l.getD 0 0]:=by
  rw[hl',←e3]
  have:=List.take_append_drop n (sink (wz rc) n n 0 (Ax l 0 n))
  have e4:(sink (wz rc) n n 0 (Ax l 0 n)).drop n=[(sink (wz rc) n n 0 (Ax l 0 n)).getD n 0]:=by
   rw[List.drop_eq_getElem_cons (by omega),List.drop_eq_nil_of_le (by omega),QF,QH (by omega)];rfl
  rw[←e4,this]
 have gl:∀k,k<n→(l'++[l.getD 0 0]).getD k 0=l'.getD k 0:=fun k hk=>by
  rw[QF,QQ (by omega),←QF]
 rw[H.set_set]at k2 z2
 rw[eS]at s1 s2 z2 k2
 obtain⟨k3,z3⟩:=O7 z2
 have pm:l.Perm (l.getD 0 0::l'):=(s2.trans p1).symm.trans List.perm_append_comm
 refine⟨l.getD 0 0,l',_, ?_,z3,pm, ?_, ?_,by simp,by simp,fun i h1 h2=>by rw[uV h1,uV h2]⟩
 · rw[xi]at z1a
   have gS:((h.set id (vT (Ax l 0 n)++J)).get a)=some [.aD id 0 l.length 1]:=by rw[z1a]
   have k2':aQ AP.A 366 [AK a,.int .i64 0,.int .i64 n] (h.set id (vT (Ax l 0 n)++J))=_:=k2
   have n1:(l.length:Int)-1=n:=by omega
   refine sY (fn:=AP.f364) (e:=[(2,.iface 2 (.aC (l.getD 0 0) 0))]) (vs:=[.iface 2 (.aC (l.getD 0 0) 0)]) rfl rfl rfl ?_ rfl
   generalize vT (Ax l 0 n)++J=P1 at *
   generalize vT (l'++[l.getD 0 0])++J=P2 at *
   generalize l.getD 0 0=t at *
   generalize l'.length=m at *
   generalize l.length=N at *
   clear z z1 z2 z3 g s1 s2 s3 ho
   simp (disch:=omega)only[go_sem,vo,AP.f364,ga,k0,n1,k1,k2',k3]
 · intro c h0 hc hp
   have:=s1 c h0 (by omega) (by omega)
   rw[gl _ (by omega),gl _ (by omega)]at this
   exact this
 · intro x hx
   have:x∈l:=pm.mem_iff.2 (Rc _ hx)
   obtain⟨j,hj,ej⟩:=Rb.1 this
   have:=IW ho j hj
   rw[show l.getD j 0=x by rw[QF,QH hj,←ej];rfl]at this
   exact this
theorem GX:bh .quo (.int .i64 (-1)) (.int .i64 2)=some (.int .i64 0):=by
 have e:=rk (k:=.i64) (a:= -1) (b:=2) (by omega)
 rw[e];rfl
theorem Kq {a id : Nat} {J : List AV} {rc : Nat → Tz} : ∀ (f j : Nat) (l : List Nat) (h : H), Hz h a id l J rc → j < l.length → j ≤ f →
 ∃e',Lp AP.A [0,1] AP.f367L0 [(0,AK a),(1,.int .i64 j)] h=some (.exit 0,e',h.set id (vT (Cy (wz rc) f j l)++J)):=by
 intro f
 induction f with
 | zero =>
   intro j l h z hj hf
   obtain rfl:j=0:=by omega
   rw[Cy,H.jh z.gi]
   refine⟨[(0,AK a),(1,.int .i64 0),(4,.int .i64 0),(17,.bool true)],sJ ?_⟩
   show aK (aQ AP.A) bo AP.f367L0 [(0,AK a),(1,.int .i64 0)] h=_
   simp (disch:=omega)only[go_sem,vo,AP.f367L0,GX]
 | succ f ih =>
   intro j l h z hj hf
   have lb:=z.lb
   have ga:=z.ga
   rw[Cy]
   by_cases c0:j=0
   · subst c0
     rw[if_pos rfl,H.jh z.gi]
     refine⟨[(0,AK a),(1,.int .i64 0),(4,.int .i64 0),(17,.bool true)],sJ ?_⟩
     show aK (aQ AP.A) bo AP.f367L0 [(0,AK a),(1,.int .i64 0)] h=_
     simp (disch:=omega)only[go_sem,vo,AP.f367L0,GX]
   · rw[if_neg c0]
     obtain⟨p,hp⟩:∃p,p=(j-1)/2:=⟨_,rfl⟩
     have n1:(j:Int)-1=((j-1:Nat):Int):=by omega
     have q:=Gd (n:=j-1) (by omega)
     rw[←hp]at q ⊢
     have ls:=Gg z (x:=j) (y:=p) rfl rfl (by omega) (by omega)
     have sw:=Gx z (x:=p) (y:=j) rfl rfl (by omega) (by omega)
     have cb:((p:Int)==(j:Int))=false:=by simp;omega
     by_cases c1:wz rc (l.getD j 0)<wz rc (l.getD p 0)
     · rw[if_pos c1]
       rw[QL c1]at ls
       have zs:=z.set (yc (l:=l) (i:=p) (j:=j) (by omega) (by omega))
       obtain⟨e',L⟩:=ih p _ _ zs (by rw[xi];omega) (by omega)
       rw[H.set_set]at L
       refine⟨e',sK (e':=[(0,AK a),(1,.int .i64 p)]) ?_ L⟩
       clear z zs ih
       simp (disch:=omega)only[go_sem,vo,AP.f367L0,n1,q,ga,ls,sw,cb]
     · rw[if_neg c1,H.jh z.gi]
       rw[QJ c1]at ls
       refine⟨[(0,AK a),(1,.int .i64 j),(4,.int .i64 p),(17,.bool true)],sJ ?_⟩
       clear z ih
       simp (disch:=omega)only[go_sem,vo,AP.f367L0,n1,q,ga,ls,cb]
theorem Py {h:H} {a id:Nat} {l:List Nat} {J:List AV} {rc:Nat→Tz} (z:Hz h a id l J rc) {j:Nat} (hj:j<l.length):
 aQ AP.A 367 [AK a,.int .i64 j] h=some (.bJ [],h.set id (vT (Cy (wz rc) j j l)++J)):=by
 obtain⟨e',L⟩:=Kq j j l h z hj (uv _)
 refine vJ (fn:=AP.f367) (e:=[]) (vs:=[]) rfl rfl rfl ?_ rfl
 simp (disch:=omega)only[go_sem,vo,AP.f367,rH,L]
theorem J9 {h:H} {a id:Nat} {l:List Nat} {c:AV} {J:List AV} {rc:Nat→Tz} (z:Hz h a id l (c::J) rc) (ho:FZ (wz rc) 0 l.length l) {t:Nat} {sv:AV} (ht:t≠a∧t≠id) (hm:0≤(rc t).m∧(rc t).m<1000000) (gt:h.get t=some [.int .i64 (rc t).w,.int .i64 (rc t).m,sv]) (hlb:l.length+1<100000) (hfl:h.floor≤h.next):
 ∃l' h',aQ AP.A 365 [AK a,.iface 2 (.aC t 0)] h=some (.bJ [],h')∧Hz h' a id l' J rc∧l'.Perm (t::l)∧FZ (wz rc) 0 l'.length l'∧h'.next=h.next+1∧h'.floor=h.floor∧∀i,i<h.next→i≠a→i≠id→h'.get i=h.get i:=by
 have lb:=z.lb
 have ga:=z.ga
 have gi:=z.gi
 have fa:=z.fa
 have fi:=z.fi
 have ne:=z.ne
 have la:=h.lt _ _ ga
 have li:=h.lt _ _ gi
 have lt:=h.lt _ _ gt
 have eP:(vT l++c::J).set l.length (.aC t 0)=vT (l++[t])++J:=by
  rw[List.set_append_right _ _ (by rw[wX];exact uv _),wX,Nat.sub_self];simp [vT]
 have lP:l.length+1≤(vT l++c::J).length:=by rw[uR,wX];simp
 obtain⟨h1,eh1⟩:∃g,g=((h.alloc [.aC t 0]).set id (vT (l++[t])++J)).set a [.aD id 0 (l.length+1) 1]:=⟨_,rfl⟩
 have k1:aQ AP.A 371 [.aC a 0,.iface 2 (.aC t 0)] h=some (.bJ [],h1):=by
  rw[eh1,←eP]
  refine vJ (fn:=AP.f371) (e:=[]) (vs:=[]) rfl rfl rfl ?_ rfl
  have gi1:(h.alloc [.aC t 0]).get id=some (vT l++c::J):=by rw[u5 (by omega),gi]
  generalize vT l++c::J=P at *
  generalize l.length=n at *
  clear z ho eP eh1
  simp (disch:=first|omega|(simp only[wm,QG,QI,uC,Nat.reduceAdd];first|done|omega|fail)|(simp (disch:=first|omega|(simp only[wm,QG,QI,uC,Nat.reduceAdd];first|done|omega|fail)|fail)only[wm,Bs,QK,QG,QI,uC,Nat.reduceAdd];done)|fail)only[go_sem,vo,Br,AP.f371,ga,gi,lP]
 have z1:Hz h1 a id (l++[t]) J rc:=by
  rw[eh1]
  refine⟨by rw[vi rfl,uV ne,u5 (by omega),ga];simp,by rw[uV (Ne.symm ne),vi rfl,u5 (by omega),gi];rfl,by simpa using fa,by simpa using fi,ne,fun x hx=> ?_,by simp;omega⟩
  rcases Q7.1 hx with q|q
  · obtain⟨a1,a2,a3,s,a4⟩:=z.tr x q
    have:=h.lt _ _ a4
    exact⟨a1,a2,a3,s,by rw[uV a1,uV a2,u5 (by omega),a4]⟩
  · obtain rfl:=List.mem_singleton.1 q
    exact⟨ht.1,ht.2,hm,sv,by rw[uV ht.1,uV ht.2,u5 (by omega),gt]⟩
 have k2:=B8 h1 id (l.length+1)
 have k3:=Py z1 (j:=l.length) (by simp)
 obtain⟨r1,r2⟩:=Hh (ky:=wz rc) (n:=l.length+1) l.length l.length (l++[t]) (uv _) (by omega) (by simp) ⟨fun x h0 hx hne=>by
  have hl:x<l.length:=by omega
  have:=ho x h0 hl (by omega)
  rw[QF,QF,QQ (by omega),QQ hl,←QF,←QF]
  exact this,fun x h0 hx hp h1=>by omega⟩
 have z2:=z1.set r2
 have g1:=z1.ga
 rw[uR,List.length_singleton]at g1
 refine⟨_,_, ?_,z2,r2.trans List.perm_append_comm,by rw[FG];simpa using r1,by rw[eh1];simp,by rw[eh1];simp,fun i hi h2 h3=>by rw[uV h3,eh1,uV h2,uV h3,u5 (by omega)]⟩
 refine vJ (fn:=AP.f365) (e:=[]) (vs:=[]) rfl rfl rfl ?_ rfl
 have n1:((l.length+1:Nat):Int)-1=l.length:=by omega
 generalize vT (Cy (wz rc) l.length l.length (l++[t]))++J=P2 at *
 generalize l.length=n at *
 clear z z1 z2 ho r1 r2 eP
 simp (disch:=omega)only[go_sem,vo,AP.f365,k1,g1,k2,n1,k3]
theorem zQ:∀(p q:List Int) (i:Nat),uZ i (p++q)=uZ i p++uZ (i+p.length) q
 |[],q,i=>by simp [uZ]
 | c :: p, q, i => by
   rw[List.cons_append,uZ,uZ,zQ p q (i+1),QG,show i+1+p.length=i+(p.length+1)by omega]
   split<;>rfl
theorem A6:∀(p q:List Int),u0 (p++q)=u0 p++u0 q
 |[],q=>by simp [u0]
 | c :: p, q => by
   rw[List.cons_append,u0,u0,A6 p q]
   split<;>rfl
structure Bt (hb h:H) (a o N:Nat) (p:List Int) (l:List Nat) (av:AV):Prop where
 ext:Ext hb h
 fl:h.floor=hb.next
 Ig:h.floor≤h.next
 ga:h.get a=some [av]
 fa:hb.next≤a
 go:h.get o=some (ints (List.replicate N 0))
 fo:hb.next≤o
 Pf:a≠o
 own:vG 1 h av l.length (vT l)
 nv:∀j,av.id?=some j→j≠a∧j≠o
 ll:l.length=(u0 p).length
 nd:l.Nodup
 tr:∀i,i<l.length→∃sid,h.get (l.getD i 0)=some [.int .i64 ((u0 p).getD i 0),.int .i64 ((uZ 0 p).getD i 0),.aD sid 0 1 1]∧h.get sid=some [.int .i64 ((uZ 0 p).getD i 0)]∧(l.getD i 0≠a∧l.getD i 0≠o∧av.id?≠some (l.getD i 0))∧(sid≠a∧sid≠o∧av.id?≠some sid)
theorem AH {α:Type} {l m:List α} {i:Nat} {d:α} (h:i<l.length):(l++m).getD i d=l.getD i d:=by
 rw[QF,QQ h,←QF]
theorem AG {α:Type} {l:List α} {x d:α}:(l++[x]).getD l.length d=x:=by
 rw[QF,QR (uv _)];simp
theorem zr {hb : H} {x : AV} {C : List Int} {a o : Nat} (hC : C.length < 1000) (rd : Rd hb x (ints C)) (pos : ∀ y ∈ C, 0 ≤ y) : ∀ (q p : List Int) (l : List Nat) (av : AV) (h : H), C = p ++ q → Bt hb h a o C.length p l av →
 ∃l' av' h',Lp AP.A [0,3,4,16,17,18] AP.f359L2 [(0,x),(3,.aD o 0 C.length 1),(4,.aC a 0),(16,x),(17,.int .i64 C.length),(18,.int .i64 p.length)] h=some (.exit 0,[(0,x),(3,.aD o 0 C.length 1),(4,.aC a 0),(16,x),(17,.int .i64 C.length),(18,.int .i64 C.length),(19,.bool false)],h')∧Bt hb h' a o C.length C l' av'
 | [], p, l, av, h, hp, b => by
   rw[QY]at hp;subst hp
   refine⟨l,av,h,sJ ?_,b⟩
   simp (disch:=omega)only[go_sem,vo,AP.f359L2]
 | y :: q, p, l, av, h, hp, b => by
   have hl:C.length=p.length+(q.length+1):=by rw[hp];simp
   obtain⟨ad,a1,a2⟩:=rd.wF
   have b1:=a1 p.length ⟨by omega,by omega⟩
   have hyC:C[p.length]?=some y:=by rw[hp];simp
   have b2:=a2 h b.ext p.length y hyC
   have yr:=pos y (uz hyC)
   have n2:(p++[y]).length=p.length+1:=by simp
   have c1:((p.length:Nat):Int)<C.length:=by omega
   by_cases c:0<y
   · have ga:=b.ga
     have la:=h.lt _ _ ga
     have lo:=h.lt _ _ b.go
     have fl:=b.fl
     have fa:=b.fa
     have fo:=b.fo
     obtain⟨g,eg⟩:∃g,g=(h.alloc [.int .i64 p.length]).alloc [.int .i64 y,.int .i64 p.length,.aD h.next 0 1 1]:=⟨_,rfl⟩
     have gl:∀i,i<h.next→g.get i=h.get i:=fun i hi=>by rw[eg,u5 (by simp;omega),u5 (by omega)]
     have gn:g.next=h.next+2:=by rw[eg];simp
     have gf:g.floor=h.floor:=by rw[eg];simp
     have owng:vG 1 g av l.length (vT l):=b.own.mono gf fun i hi=>gl i (b.own.lt hi).2
     have bfl:=b.Ig
     have ll:=b.ll
     have wl:(u0 p).length≤p.length:=by rw[←vw 0 p];exact vW 0 p
     obtain⟨v1,h1,p1,p2,p3,p4,p5,p6⟩:=owng.push (by omega) (z:=8) (m:=1) (by omega) (by omega) [.aC (h.next+1) 0] rfl rfl (ze (by omega))
     rw[gn]at p1 p4 p5 p6
     have avlt:∀j,av.id?=some j→j<h.next:=fun j hj=>(b.own.lt hj).2
     have hav:∀i,h.next≤i→av.id?≠some i:=fun i hi q=>by have:=avlt i q;omega
     have k1:∀i,i<h.next+2→av.id?≠some i→h1.get i=g.get i:=fun i hi hne=>p5 i hne hi
     have ga1:h1.get a=some [av]:=by rw[k1 a (by omega) (fun q=>(b.nv _ q).1 rfl),gl a la,ga]
     have gt1:h1.get (h.next+1)=some [.int .i64 y,.int .i64 p.length,.aD h.next 0 1 1]:=by
      rw[k1 _ (by omega) (hav _ (by omega)),eg,u9 (by simp)]
     have gs1:h1.get h.next=some [.int .i64 p.length]:=by
      rw[k1 _ (by omega) (hav _ (by omega)),eg,u5 (by simp),u9 rfl]
     have S1:uZ 0 (p++[y])=uZ 0 p++[((p.length:Nat):Int)]:=by rw[zQ,uC,uZ,if_pos c];rfl
     have W1:u0 (p++[y])=u0 p++[y]:=by rw[A6,u0,if_pos c];rfl
     have sl:=vw 0 p
     have vid:v1.id?=some (h.next+3):=p6
     have nb:Bt hb (h1.set a [v1]) a o C.length (p++[y]) (l++[h.next+1]) v1:=by
      refine⟨fun i d hi=> ?_,by simp;omega,by simp;omega,by rw[vi rfl,ga1];rfl,fa, ?_,fo,b.Pf, ?_,fun j hj=> ?_, ?_, ?_,fun i hi=> ?_⟩
      · have:=hb.lt _ _ hi
        have hi2:=b.ext i d hi
        have:=h.lt _ _ hi2
        rw[uV (by omega),k1 i (by omega) (fun q=>by have:=(b.own.lt q).1;omega),gl i (by omega),hi2]
      · rw[uV (Ne.symm b.Pf),k1 o (by omega) (fun q=>(b.nv _ q).2 rfl),gl o lo,b.go]
      · have:vG 1 (h1.set a [v1]) v1 (l.length+1) (vT l++[.aC (h.next+1) 0]):=p2.mono (by simp) fun j hj=>by
         rw[vid]at hj
         have:=ud hj
         rw[uV (by omega)]
        simpa [vT]using this
      · rw[vid]at hj
        have:=ud hj
        exact⟨by omega,by omega⟩
      · rw[W1];simp [ll]
      · rw[List.nodup_append]
        refine⟨b.nd,by simp,fun u hu w hw=> ?_⟩
        obtain rfl:=List.mem_singleton.1 hw
        obtain⟨j,hj,ej⟩:=Rb.1 hu
        obtain⟨sid,t1,_⟩:=b.tr j hj
        rw[show l.getD j 0=u by rw[QF,QH hj,←ej];rfl]at t1
        have:=h.lt _ _ t1
        omega
      · rw[uR,List.length_singleton]at hi
        by_cases e:i<l.length
        · obtain⟨sid,t1,t2,⟨t3,t4,t5⟩,t6,t7,t8⟩:=b.tr i e
          have l1:=h.lt _ _ t1
          have l2:=h.lt _ _ t2
          rw[AH e,W1,S1,AH (by omega),AH (by omega)]
          refine⟨sid,by rw[uV t3,k1 _ (by omega) t5,gl _ l1,t1],by rw[uV t6,k1 _ (by omega) t8,gl _ l2,t2],⟨t3,t4,fun z=> ?_⟩,t6,t7,fun z=> ?_⟩
          · rw[vid]at z;have:=ud z;omega
          · rw[vid]at z;have:=ud z;omega
        · obtain rfl:i=l.length:=by omega
          rw[AG,W1,S1]
          have e1:(u0 p++[y]).getD l.length 0=y:=by rw[ll];exact AG
          have e2:(uZ 0 p++[((p.length:Nat):Int)]).getD l.length 0=p.length:=by rw[ll,←sl];exact AG
          rw[e1,e2]
          refine⟨h.next,by rw[uV (by omega),gt1],by rw[uV (by omega),gs1],⟨by omega,by omega,fun z=> ?_⟩,by omega,by omega,fun z=> ?_⟩
          · rw[vid]at z;have:=ud z;omega
          · rw[vid]at z;have:=ud z;omega
     obtain⟨l',av',h',L,nb'⟩:=zr hC rd pos q (p++[y]) _ _ _ (by rw[hp];simp) nb
     refine⟨l',av',h',sK ?_ L,nb'⟩
     have hfa:h1.floor≤a:=by omega
     have e3:(((p++[y]).length:Nat):Int)=(p.length:Int)+1:=by simp
     rw[e3]
     have vs:v1.sc=true:=p2.sc
     have vc:v1.cells=[v1]:=p2.cells
     rw[eg]at p1
     clear nb nb' rd b owng p2 L k1 gl gn gf eg S1 W1 hyC
     simp (disch:=omega)only[go_sem,vo,AP.f359L2,c1,b1,b2,c,ga,u9,u5,p1,ga1,hfa,vs,vc]
   · have S1:uZ 0 (p++[y])=uZ 0 p:=by rw[zQ,uZ,if_neg c];simp [uZ]
     have W1:u0 (p++[y])=u0 p:=by rw[A6,u0,if_neg c];simp [u0]
     have nb:Bt hb h a o C.length (p++[y]) l av:=⟨b.ext,b.fl,b.Ig,b.ga,b.fa,b.go,b.fo,b.Pf,b.own,b.nv,by rw[W1];exact b.ll,b.nd,fun i hi=>by rw[W1,S1];exact b.tr i hi⟩
     obtain⟨l',av',h',L,nb'⟩:=zr hC rd pos q (p++[y]) _ _ _ (by rw[hp];simp) nb
     refine⟨l',av',h',sK ?_ L,nb'⟩
     have e3:(((p++[y]).length:Nat):Int)=(p.length:Int)+1:=by simp
     rw[e3]
     clear nb nb' rd b L S1 W1 hyC
     simp (disch:=omega)only[go_sem,vo,AP.f359L2,c1,b1,b2,c]
theorem Hz.congr {h:H} {a id:Nat} {l:List Nat} {J:List AV} {rc rc':Nat→Tz} (z:Hz h a id l J rc) (e:∀x∈l,rc' x=rc x):Hz h a id l J rc':=
 ⟨z.ga,z.gi,z.fa,z.fi,z.ne,fun t ht=>by rw[e t ht];exact z.tr t ht,z.lb⟩
theorem Hz.mono {h g:H} {a id:Nat} {l:List Nat} {J:List AV} {rc:Nat→Tz} (z:Hz h a id l J rc) (hf:g.floor=h.floor) (hg:∀i,(i=a∨i=id∨i∈l)→g.get i=h.get i):Hz g a id l J rc:=
 ⟨by rw[hg a (.inl rfl)];exact z.ga,by rw[hg id (.inr (.inl rfl))];exact z.gi,by rw[hf];exact z.fa,by rw[hf];exact z.fi,z.ne,fun t ht=>by rw[hg t (.inr (.inr ht))];exact z.tr t ht,z.lb⟩
theorem FZ.congr {rc rc':Nat→Tz} {l:List Nat} (o:FZ (wz rc) 0 l.length l) (e:∀x∈l,rc' x=rc x):FZ (wz rc') 0 l.length l:=fun c h0 hc hp=>by
 have:=o c h0 hc hp
 have m1:=e _ (yJ (l:=l) (i:=c) hc)
 have m2:=e _ (yJ (l:=l) (i:=(c-1)/2) (by omega))
 unfold wz at this ⊢
 rw[m1,m2];exact this
theorem Rd.vE {h g:H} {v:AV} {cs:List AV} (r:Rd h v cs) (hg:∀j,v.id?=some j→g.get j=h.get j):Rd g v cs:=by
 refine⟨?_,r.2⟩
 have:=r.1
 cases v with
 | aD id off len s =>
   simp only[aR]at this ⊢
   rw[hg id rfl];exact this
 |_=>exact this
structure Mz (hb h:H) (a id o n N:Nat) (J:List AV) (l:List Nat) (rc:Nat→Tz) (O:List Int):Prop where
 z:Hz h a id l J rc
 ext:Ext hb h
 fl:h.floor=hb.next
 Ig:h.floor≤h.next
 la:hb.next≤a
 li:hb.next≤id
 lo:hb.next≤o
 go:h.get o=some (ints O)
 no:o≠a∧o≠id
 ol:O.length=N
 ob:∀y∈O,0≤y∧y≤((1000* (n-l.length):Nat):Int)
 tr:∀t∈l,t≠o∧∃sv,h.get t=some [.int .i64 (rc t).w,.int .i64 (rc t).m,sv]∧Rd h sv (ints (rc t).L)∧sv.sc=true∧sv.cells=[sv]∧∀j,sv.id?=some j→j≠a∧j≠id∧j≠o
 wb:∀t∈l,0≤(rc t).w∧(rc t).w<1000000000000000
theorem E5:∀(L O:List Int) (B:Int),(∀y∈O,0≤y∧y≤B)→0≤B→∀y∈AL O L,0≤y∧y≤B+L.length
 |[],O,B,h,hB,y,hy=>by have:=h y hy;simp;exact this
 | s :: r, O, B, h, hB, y, hy => by
   rw[AL]at hy
   have:=E5 r _ (B+1) (xX h hB) (by omega) y hy
   rw[QG];omega
theorem E4 {a o t N:Nat} {made:Int} {sv:AV} {L:List Int} (h0:H) (rd:Rd h0 sv (ints L)) (hL:L.length<100000) (hr:∀s∈L,0≤s∧s<N) (hN:N<100000):∀(q p:List Int) (O:List Int) (B:Int) (h:H),L=p++q→Ext h0 h→h0.get o=none→h.get o=some (ints O)→h.floor≤o→O.length=N→(∀y∈O,0≤y∧y≤B)→0≤B→B+q.length<1000000000→
 ∃h',Lp AP.A [3,4,7,10,75,76,77] AP.f359L0 [(3,.aD o 0 N 1),(4,.aC a 0),(7,.int .i64 made),(10,.aC t 0),(75,sv),(76,.int .i64 L.length),(77,.int .i64 p.length)] h=some (.exit 4,[(3,.aD o 0 N 1),(4,.aC a 0),(7,.int .i64 made),(10,.aC t 0),(75,sv),(76,.int .i64 L.length),(77,.int .i64 L.length),(78,.bool false)],h')∧h'.get o=some (ints (AL O q))∧h'.floor=h.floor∧h'.next=h.next∧∀i,i≠o→h'.get i=h.get i
 | [], p, O, B, h, hp, hx, hn, go, fo, hO, ob, hB, hb => by
   rw[QY]at hp;subst hp
   refine⟨h,sJ ?_,go,rfl,rfl,fun _ _=>rfl⟩
   simp (disch:=omega)only[go_sem,vo,AP.f359L0]
 | s :: q, p, O, B, h, hp, hx, hn, go, fo, hO, ob, hB, hb => by
   have hl:L.length=p.length+(q.length+1):=by rw[hp];simp
   obtain⟨ad,a1,a2⟩:=rd.wF
   have b1:=a1 p.length ⟨by omega,by omega⟩
   have hyC:L[p.length]?=some s:=by rw[hp];simp
   have b2:=a2 h hx p.length s hyC
   have sr:=hr s (uz hyC)
   have c1:((p.length:Nat):Int)<L.length:=by omega
   have sO:s.toNat<O.length:=by omega
   have gs:=Af sO
   have ib:cG (.int .i64 s) N=some s.toNat:=by
    simp [cG,nh,sr]
   have yb:=ob (O.getD s.toNat 0) (by rw[QF,QH sO];exact QW _)
   have st:=xz O s.toNat (O.getD s.toNat 0+1)
   have lO:(ints O).length=O.length:=by rw[pf]
   obtain⟨h',L1,g1,f1,n1,k1⟩:=E4 h0 rd hL hr hN q (p++[s]) (wq O s.toNat) (B+1) (h.set o (ints (wq O s.toNat))) (by rw[hp];simp) (hx.Hj hn _) hn (by rw[vi rfl,go];rfl) (by simpa using fo) (by rw[wD];exact hO) (xX ob hB) (by omega) (by simp at hb;omega)
   refine⟨h',sK ?_ L1,by rw[AL];exact g1,by rw[f1];simp,by rw[n1];simp,fun i hi=>by rw[k1 i hi,uV hi]⟩
   have e3:(((p++[s]).length:Nat):Int)=(p.length:Int)+1:=by simp
   rw[e3]
   unfold wq
   rw[←st]
   rw[hO]at lO sO
   generalize ints O=P at *
   generalize O.getD s.toNat 0=y at *
   generalize s.toNat=k at *
   clear rd L1 ob hr a1 a2 hyC st g1 k1 hx
   simp (disch:=omega)only[go_sem,vo,AP.f359L0,c1,b1,b2,ib,go,gs,fo]
theorem Gj {hb h : H} {a id o n N : Nat} {J : List AV} {l : List Nat} {rc : Nat → Tz} {O : List Int} {tr : Nat → Tr} {tot : Int} {S : List Int} {G s : FS} (v : Mz hb h a id o n N J l rc O) (sm : Et n N tot S G s rc tr l O) (ho : FZ (wz rc) 0 l.length l) (h2 : 2 ≤ l.length) (hn : n ≤ 1000) (hN : N ≤ 1000) (ht : tot < 1000000000000000) :
 ∃h' J' l' rc' tr' s' O',aK (aQ AP.A) bo AP.f359L1 [(3,.aD o 0 N 1),(4,.aC a 0),(7,.int .i64 (N+(n-l.length):Nat))] h=some (.normal,[(3,.aD o 0 N 1),(4,.aC a 0),(7,.int .i64 (N+(n-l'.length):Nat))],h')∧Mz hb h' a id o n N J' l' rc' O'∧Et n N tot S G s' rc' tr' l' O'∧FZ (wz rc') 0 l'.length l'∧l'.length+1=l.length:=by
 have ga:=v.z.ga
 have lb:=v.z.lb
 have ll:=sm.ll
 obtain⟨ta,l1,h1,k1,z1,pm1,ho1,le1,n1,f1,kp1⟩:=IX v.z (by omega) ho
 have pl1:=pm1.length_eq
 rw[QG]at pl1
 obtain⟨tb,l2,h2',k2,z2,pm2,ho2,le2,n2,f2,kp2⟩:=IX z1 (by omega) ho1
 have pl2:=pm2.length_eq
 rw[QG]at pl2
 have pm:l.Perm (ta::tb::l2):=pm1.trans (pm2.cons ta)
 have sm1:=sm.perm pm
 have kp:∀i,i≠a→i≠id→h2'.get i=h.get i:=fun i q1 q2=>by rw[kp2 i q1 q2,kp1 i q1 q2]
 have tm:∀x∈ta::tb::l2,x∈l:=fun x hx=>pm.mem_iff.2 hx
 have T:∀x∈l,x≠a∧x≠id∧x≠o∧x<h.next∧∃sv,h2'.get x=some [.int .i64 (rc x).w,.int .i64 (rc x).m,sv]∧Rd h2' sv (ints (rc x).L)∧sv.sc=true∧sv.cells=[sv]∧∀j,sv.id?=some j→j≠a∧j≠id∧j≠o:=fun x hx=>by
  obtain⟨a1,a2,_,_⟩:=v.z.tr x hx
  obtain⟨a3,sv,g1,g2,g3,g4,g5⟩:=v.tr x hx
  exact⟨a1,a2,a3,h.lt _ _ g1,sv,by rw[kp x a1 a2,g1],g2.vE fun j hj=>kp j (g5 j hj).1 (g5 j hj).2.1,g3,g4,g5⟩
 obtain⟨ta1,ta2,ta3,ta4,sva,ga1,ga2,ga3,ga4,ga5⟩:=T ta (tm _ (by simp))
 obtain⟨tb1,tb2,tb3,tb4,svb,gb1,gb2,gb3,gb4,gb5⟩:=T tb (tm _ (by simp))
 have wa:=v.wb ta (tm _ (by simp))
 have wb:=v.wb tb (tm _ (by simp))
 have nx:h2'.next=h.next:=by rw[n2,n1]
 obtain⟨t,et⟩:∃t,t=h2'.next+1:=⟨_,rfl⟩
 obtain⟨rc',erc⟩:∃r:Nat→Tz,r=fun x=>if x=t then⟨(rc ta).w+(rc tb).w,((N+(n-(l2.length+2)):Nat):Int),(rc ta).L++(rc tb).L⟩else rc x:=⟨_,rfl⟩
 have fr:∀x∈l2,x≠t:=fun x hx=>by
  obtain⟨_,_,_,q,_⟩:=T x (tm x (by simp [hx]))
  omega
 have rct:rc' t=⟨(rc ta).w+(rc tb).w,((N+(n-(l2.length+2)):Nat):Int),(rc ta).L++(rc tb).L⟩:=by rw[erc];exact if_pos rfl
 have rco:∀x∈l2,rc' x=rc x:=fun x hx=>by rw[erc];exact if_neg (fr x hx)
 obtain⟨sm2,rL,cL,pL⟩:=sm1.step hn hN ht (rc':=rc') (t:=t) (fun x hx=>le1 x (pm2.mem_iff.2 hx)) (fun x hx=>le2 x hx) fr rco rct
 obtain⟨L,eL⟩:∃L,L=(rc ta).L++(rc tb).L:=⟨_,rfl⟩
 rw[←eL]at rct sm2 rL cL pL
 have xa:Ext h2' (h2'.alloc [sva,svb]):=(Ext.refl _).alloc _
 have k3:aQ AP.A 62 [.aD h2'.next 0 2 1] (h2'.alloc [sva,svb])=some (vK L,h2'.alloc [sva,svb]):=by
  have r1:Rd (h2'.alloc [sva,svb]) (.aD h2'.next 0 2 1) ([(sva,(rc ta).L),(svb,(rc tb).L)].map (·.1)):=⟨by simp [aR,u9],by intro s e;cases e⟩
  have e:cat [(sva,(rc ta).L),(svb,(rc tb).L)]=L:=by rw[eL];simp [cat]
  have:=BT (h2'.alloc [sva,svb]) (.aD h2'.next 0 2 1) [(sva,(rc ta).L),(svb,(rc tb).L)] r1 (fun p hp=>by
   simp at hp
   rcases hp with rfl|rfl
   · exact ga2.mono fun i c q=>xa i c q
   · exact gb2.mono fun i c q=>xa i c q) (by rw[e];omega) (by simp) (by rw[e];exact pL)
  rw[e]at this;exact this
 obtain⟨h4,eh4⟩:∃g,g=(h2'.alloc [sva,svb]).alloc [.int .i64 ((rc ta).w+(rc tb).w),.int .i64 (N+(n-l.length):Nat),vK L]:=⟨_,rfl⟩
 have gt4:h4.get t=some [.int .i64 ((rc ta).w+(rc tb).w),.int .i64 (N+(n-l.length):Nat),vK L]:=by rw[eh4,et,u9 (by simp)]
 have n4:h4.next=h.next+2:=by rw[eh4];simp;omega
 have f4:h4.floor=h.floor:=by rw[eh4];simp;omega
 have kp4:∀i,i<h.next→h4.get i=h2'.get i:=fun i hi=>by rw[eh4,u5 (by simp;omega),u5 (by omega)]
 have lo:=h.lt _ _ v.go
 have la:=h.lt _ _ ga
 have li:=h.lt _ _ v.z.gi
 have go4:h4.get o=some (ints O):=by rw[kp4 o lo,kp o v.no.1 v.no.2,v.go]
 have ln:iG false (vK L)=some (.int .i64 L.length):=rfl
 have rdL:Rd H.empty (vK L) (ints L):=xc _ _
 have fl:=v.fl
 have vlo:=v.lo
 obtain⟨h5,L5,g5,f5,n5,kp5⟩:=E4 (a:=a) (t:=t) (made:=(N+(n-l.length):Nat)) (N:=N) H.empty rdL (by omega) rL (by omega) L [] O ((1000* (n-l.length):Nat):Int) h4 rfl (fun i c q=>by simp [H.empty,H.get]at q) (by simp [H.empty,H.get]) go4 (by omega) v.ol v.ob (by omega) (by omega)
 have gt5:h5.get t=some [.int .i64 (rc' t).w,.int .i64 (rc' t).m,vK L]:=by
  rw[kp5 t (by omega),gt4,rct,show l.length=l2.length+2 by omega]
 have z2':Hz h5 a id l2 (.aC tb 0:: .aC ta 0::J) rc':=by
  refine(z2.mono (by omega) fun i hi=> ?_).congr rco
  have:i<h.next∧i≠o:=by
   rcases hi with rfl|rfl|hi
   · exact⟨la,v.no.1.symm⟩
   · exact⟨li,v.no.2.symm⟩
   · obtain⟨_,_,q1,q2,_⟩:=T i (tm i (by simp [hi]))
     exact⟨q2,q1⟩
  rw[kp5 i this.2,kp4 i this.1]
 have Ig:=v.Ig
 obtain⟨l',h6,k6,z6,pm6,ho6,n6,f6,kp6⟩:=J9 z2' (ho2.congr rco) (t:=t) (sv:=vK L) ⟨by omega,by omega⟩ (by rw[rct];exact⟨by show(0:Int)≤((_:Nat):Int);omega,by show((_:Nat):Int)<1000000;omega⟩) gt5 (by omega) (by omega)
 have pl6:=pm6.length_eq
 rw[QG]at pl6
 have kpo:∀i,i<h.next→i≠a→i≠id→i≠o→h6.get i=h.get i:=fun i q1 q2 q3 q4=>by rw[kp6 i (by omega) q2 q3,kp5 i q4,kp4 i q1,kp i q2 q3]
 refine⟨h6,_,l',rc',_,_,AL O L, ?_,⟨z6,fun i c hi=> ?_,by omega,by omega,v.la,v.li,v.lo, ?_,v.no,by rw[Cb];exact v.ol, ?_,fun x hx=> ?_,fun x hx=> ?_⟩,sm2.perm pm6.symm,ho6,by omega⟩
 · have c:(1:Int)<l.length:=by omega
   have k0:∀g:H,aQ AP.A 363 [.aD id 0 l.length 1] g=_:=fun g=>B8 g id l.length
   have em:((N+(n-l'.length):Nat):Int)=((N+(n-l.length):Nat):Int)+1:=by omega
   have lms:((([]:List Int).length:Nat):Int)=0:=rfl
   rw[lms]at L5
   rw[em]
   have mb:((N+(n-l.length):Nat):Int)<1000000:=by omega
   have ga4':=(kp4 ta ta4).trans ga1
   have gb4':=(kp4 tb tb4).trans gb1
   have im1:(vK L).sc=true:=rfl
   have im2:(vK L).cells=[vK L]:=rfl
   generalize ((N+(n-l.length):Nat):Int)=made at *
   generalize (rc ta).w=A1 at *
   generalize (rc ta).m=A2 at *
   generalize (rc tb).w=B1 at *
   generalize (rc tb).m=B2 at *
   generalize vK L=iL at *
   generalize L.length=LL at *
   rw[et]at k6 L5 gt4
   clear v sm z1 z2 z2' z6 pm1 ho ho1 ho2 ho6 le1 le2 pm2 pm sm1 kp tm T fr rco rct sm2 rL xa eL kp4 kp5 kp6 kpo gt5 go4 g5 rdL erc
   simp (disch:=first|omega|(simp only[wm,QG,QI,uC,Nat.reduceAdd,ga1,gb1];first|done|omega|fail)|(simp (disch:=first|omega|(simp only[wm,QG,QI,uC,Nat.reduceAdd,ga1,gb1];first|done|omega|fail)|fail)only[wm,Bs,QK,QG,QI,uC,Nat.reduceAdd,ga1,gb1];done)|fail)only[go_sem,vo,Br,AP.f359L1,ga,k0,c,k1,k2,ga1,gb1,k3,←eh4,gt4,ga4',gb4',ln,rH,L5,k6,ga3,ga4,gb3,gb4,im1,im2]
 · have:=hb.lt _ _ hi
   have e:=v.ext i c hi
   have:=h.lt _ _ e
   have:=v.la
   have:=v.li
   rw[kpo i (by omega) (by omega) (by omega) (by omega),e]
 · rw[kp6 o (by omega) v.no.1 v.no.2,g5]
 · intro y hy
   have:=E5 L O _ v.ob (by omega) y hy
   omega
 · rcases uO.1 (pm6.mem_iff.1 hx)with q|q
   · subst q
     exact⟨by omega,vK L,by rw[kp6 _ (by omega) (by omega) (by omega),gt5],by rw[rct];exact rdL.vE fun j hj=>(by cases hj),rfl,rfl,fun j hj=>(by cases hj)⟩
   · obtain⟨a1,a2,a3,a4,sv,q1,q2,q3,q4,q5⟩:=T x (tm x (by simp [q]))
     have kx:h6.get x=h2'.get x:=by rw[kpo x a4 a1 a2 a3,kp x a1 a2]
     refine⟨a3,sv,by rw[kx,rco x q,q1], ?_,q3,q4,q5⟩
     rw[rco x q]
     refine q2.vE fun j hj=> ?_
     obtain⟨b1,b2,b3⟩:=q5 j hj
     have jl:j<h2'.next:=by
      have:=q2.1
      cases sv with
      | aD i2 o2 l2' s2 =>
        obtain rfl:=ud hj
        cases e:h2'.get i2 with
        |none=>simp [aR,e]at this
        |some c=>exact h2'.lt _ _ e
      |aC i2 o2=>cases this
      |_=>cases hj
     rw[kpo j (by omega) b1 b2 b3,kp j b1 b2]
 · rcases uO.1 (pm6.mem_iff.1 hx)with q|q
   · subst q
     rw[rct]
     have e:=(sm2.rel _ (List.mem_cons_self)).1
     rw[rct]at e
     have ws:=sm2.hv.sum
     have wp:=sm2.hv.GF
     refine⟨by show 0≤(rc ta).w+(rc tb).w;omega, ?_⟩
     rw[QO,QO,Q4]at ws
     have nn:∀q:List Tr,(∀t∈q,1≤s.D5.W.getD t.1 0)→0≤(q.map fun t=>s.D5.W.getD t.1 0).sum:=by
      intro q
      induction q with
      |nil=>intro _;simp
      |cons x q ih=>intro h;have:=ih fun t ht=>h t (by simp [ht]);have:=h x (by simp);simp only[QO,Q4];omega
     have:=nn _ (fun t ht=>wp t (Rc _ ht))
     rw[←e]at ws
     show(rc ta).w+(rc tb).w<_
     have ws':(rc ta).w+(rc tb).w+_=tot:=ws
     omega
   · rw[rco x q];exact v.wb x (tm x (by simp [q]))
theorem Cp {hb:H} {a id o n N:Nat} {tot:Int} {S:List Int} {G:FS} (hn:n≤1000) (hN:N≤1000) (ht:tot<1000000000000000):∀(m:Nat) (h:H) (J:List AV) (l:List Nat) (rc:Nat→Tz) (tr:Nat→Tr) (s:FS) (O:List Int),l.length=m+1→Mz hb h a id o n N J l rc O→Et n N tot S G s rc tr l O→FZ (wz rc) 0 l.length l→
 ∃h' t rc' tr' s' O' mv,Lp AP.A [3,4,7] AP.f359L1 [(3,.aD o 0 N 1),(4,.aC a 0),(7,.int .i64 (N+(n-l.length):Nat))] h=some (.exit 2,[(3,.aD o 0 N 1),(4,.aC a 0),(7,mv),(41,.bool false)],h')∧Et n N tot S G s' rc' tr' [t] O'∧h'.get o=some (ints O')∧h'.floor=hb.next
 | 0, h, J, l, rc, tr, s, O, hl, v, sm, ho => by
   obtain⟨t,rfl⟩:=List.length_eq_one_iff.1 hl
   have ga:=v.z.ga
   have k0:∀g:H,aQ AP.A 363 [.aD id 0 1 1] g=_:=fun g=>B8 g id 1
   refine⟨h,t,rc,tr,s,O,.int .i64 (N+(n-[t].length):Nat),sJ ?_,sm,v.go,v.fl⟩
   rw[List.length_singleton]at ga
   have c:¬(1:Int)<((1:Nat):Int):=by omega
   clear v sm ho
   generalize ((N+(n-[t].length):Nat):Int)=made
   simp (disch:=omega)only[go_sem,vo,AP.f359L1,ga,k0,c]
 | m + 1, h, J, l, rc, tr, s, O, hl, v, sm, ho => by
   obtain⟨h1,J1,l1,rc1,tr1,s1,O1,k,v1,sm1,ho1,e⟩:=Gj v sm ho (by omega) hn hN ht
   obtain⟨h',t,rc',tr',s',O',mv,L,r⟩:=Cp hn hN ht m h1 J1 l1 rc1 tr1 s1 O1 (by omega) v1 sm1 ho1
   exact⟨h',t,rc',tr',s',O',mv,sK k L,r⟩
theorem E3 {l:List Nat} (nd:l.Nodup) {i:Nat} (h:i<l.length):l.idxOf (l.getD i 0)=i:=by
 have hm:l.getD i 0∈l:=yJ h
 have h1:=List.idxOf_lt_length_of_mem hm
 have h2:=List.getElem_idxOf h1
 have h3:l[i]=l.getD i 0:=by rw[QF,QH h];rfl
 rcases Nat.lt_trichotomy (l.idxOf (l.getD i 0)) i with q|q|q
 · exact absurd (h2.trans h3.symm) (List.pairwise_iff_getElem.1 nd _ _ h1 h q)
 · exact q
 · exact absurd (h3.trans h2.symm) (List.pairwise_iff_getElem.1 nd _ _ h h1 q)
def Cx (l:List Nat) (C:List Int) (t:Nat):Tz:=⟨(u0 C).getD (l.idxOf t) 0,(uZ 0 C).getD (l.idxOf t) 0,[(uZ 0 C).getD (l.idxOf t) 0]⟩
def GC (l:List Nat) (t:Nat):Tr:=(l.idxOf t,[(l.idxOf t,0)])
theorem JI {l:List Nat} (nd:l.Nodup) {n:Nat} (h:l.length=n):l.map (GC l)=T0 n:=by
 apply List.ext_getElem?
 intro i
 unfold T0
 rw[uG,uG]
 by_cases c:i<l.length
 · rw[QH c,Q8 (by omega)]
   have h3:l[i]=l.getD i 0:=by rw[QF,QH c];rfl
   show some (GC l l[i])=_
   unfold GC
   rw[h3,E3 nd c];rfl
 · rw[QT (by omega),QT (by simp;omega)];rfl
def zo (C:List Int):List Int:=vA (uZ 0 C) (u6 (u0 C)) (List.replicate C.length 0)
theorem HK (C:List Int):(zo C).length=C.length:=by unfold zo;rw[vV];simp
theorem Fh {α:Type} {l:List α} {x d:α} (h:x∈l):∃i,i<l.length∧l.getD i d=x:=by
 obtain⟨i,hi,e⟩:=Rb.1 h
 exact⟨i,hi,by rw[QF,QH hi,←e];rfl⟩
theorem JA {hb h:H} {a o:Nat} {C:List Int} {l:List Nat} {av:AV} (b:Bt hb h a o C.length C l av) (hC:C.length<1000) (pos:∀y∈C,0≤y∧y≤2147483647) (h1:1≤l.length):
 ∃id,Hz h a id l [] (Cx l C)∧Mz hb h a id o (u0 C).length C.length [] l (Cx l C) (List.replicate C.length 0)∧Et (u0 C).length C.length (u0 C).sum (uZ 0 C) (FS.xB ((u0 C).length-1) (Bq (u0 C))) (Bq (u0 C)) (Cx l C) (GC l) l (List.replicate C.length 0):=by
 obtain⟨id,ev,gi,fi⟩:=Ik b.own h1
 have av1:av.id?=some id:=by rw[ev];rfl
 have nva:=b.nv id av1
 have ga:=b.ga
 rw[ev]at ga
 have so:=DJ C
 have sl:=vw 0 C
 have ll:=b.ll
 have fl:=b.fl
 have wl:=vW 0 C
 have rel:∀t∈l,∃i,i<l.length∧l.getD i 0=t∧GC l t=(i,[(i,0)])∧Cx l C t=⟨(u0 C).getD i 0,(uZ 0 C).getD i 0,[(uZ 0 C).getD i 0]⟩:=fun t ht=>by
  obtain⟨i,hi,e⟩:=Fh (d:=0) ht
  have ix:=E3 b.nd hi
  rw[e]at ix
  exact⟨i,hi,e,by unfold GC;rw[ix],by unfold Cx;rw[ix]⟩
 have z:Hz h a id l [] (Cx l C):=by
  refine⟨ga,by rw[QY];exact gi,by rw[fl];exact b.fa,fi,nva.1.symm,fun t ht=> ?_,by omega⟩
  obtain⟨i,hi,e,_,e2⟩:=rel t ht
  obtain⟨sid,t1,t2,⟨t3,t4,t5⟩,_⟩:=b.tr i hi
  have:=so.at (i:=i) (by omega)
  rw[e]at t1 t3 t5
  rw[e2]
  exact⟨t3,fun q=>t5 (by rw[q];exact av1),⟨by show 0≤(uZ 0 C).getD i 0;omega,by show(uZ 0 C).getD i 0<_;omega⟩,_,t1⟩
 have wmem:∀i,i<l.length→1≤(u0 C).getD i 0∧(u0 C).getD i 0≤2147483647:=fun i hi=>by
  have hm:(u0 C).getD i 0∈u0 C:=by rw[QF,QH (by omega)];exact QW _
  obtain⟨q1,q2⟩:=xq C _ hm
  have:=pos _ q1
  omega
 refine⟨id,z,⟨z,b.ext,fl,b.Ig,b.fa,by omega,b.fo,b.go,⟨b.Pf.symm,fun q=>nva.2 q.symm⟩,by simp,fun y hy=>by have:=Q5 hy;omega,fun t ht=> ?_,fun t ht=> ?_⟩, ?_⟩
 · obtain⟨i,hi,e,_,e2⟩:=rel t ht
   obtain⟨sid,t1,t2,⟨t3,t4,t5⟩,t6,t7,t8⟩:=b.tr i hi
   rw[e]at t1 t4
   rw[e2]
   refine⟨t4,.aD sid 0 1 1,t1,⟨?_,by intro s e;cases e⟩,rfl,rfl,fun j hj=> ?_⟩
   · show aR h 1 (.aD sid 0 1 1)=some (1,[.int .i64 ((uZ 0 C).getD i 0)])
     simp [aR,t2]
   · obtain rfl:sid=j:=ud hj
     exact⟨t6,fun q=>t8 (by rw[q];exact av1),t7⟩
 · obtain⟨i,hi,e,_,e2⟩:=rel t ht
   rw[e2]
   have:=wmem i hi
   exact⟨by show 0≤(u0 C).getD i 0;omega,by show(u0 C).getD i 0<_;omega⟩
 · refine Et.init so (fun y hy=>by obtain⟨i,hi,e⟩:=Fh (d:=0) hy;have:=wmem i (by omega);omega) (GC l) (JI b.nd ll) fun t ht=> ?_
   obtain⟨i,hi,e,e1,e2⟩:=rel t ht
   exact⟨i,by omega,e1,e2⟩
theorem IB (h : H) (x : AV) (C : List Int) (h1 : 1 ≤ C.length) (hC : C.length < 1000) (rd : Rd h x (ints C)) (pos : ∀ y ∈ C, 0 ≤ y ∧ y ≤ 2147483647) :
 aQ AP.A 359 [x] h=some (yD 1 C.length (ints (zo C)),h):=by
 have yh:Rd h.dG x (ints C):=rd.mono (vb h)
 have ln:=rd.len
 rw[pf]at ln
 simp only[I]at ln
 obtain⟨g0,eg0⟩:∃g,g=(h.dG.alloc (yA C.length [.int .i64 0])).alloc [.aO]:=⟨_,rfl⟩
 have go:g0.get h.next=some (ints (List.replicate C.length 0)):=by rw[eg0,u5 (by simp),u9 (by simp),yy]
 have ga:g0.get (h.next+1)=some [.aO]:=by rw[eg0,u9 (by simp)]
 have fl0:g0.floor=h.next:=by rw[eg0];simp
 have nx0:g0.next=h.next+2:=by rw[eg0];simp
 have b0:Bt h.dG g0 (h.next+1) h.next C.length [] [] .aO:=by
  refine⟨by rw[eg0];exact((Ext.refl _).alloc _).alloc _,by rw[fl0];rfl,by omega,ga,by simp,go,by simp,by omega,vG.nil,fun j hj=>(by cases hj),rfl,List.nodup_nil,fun i hi=>(by simp at hi)⟩
 obtain⟨l,av,g1,L1,b1⟩:=zr hC yh (fun y hy=>(pos y hy).1) C [] [] .aO g0 rfl b0
 have L1':Lp AP.A [0,3,4,16,17,18] AP.f359L2 [(0,x),(3,.aD h.next 0 C.length 1),(4,.aC (h.next+1) 0),(16,x),(17,.int .i64 C.length),(18,.int .i64 0)] g0=_:=L1
 obtain⟨g2,g3,mv,k1,L2,g4,f3⟩:∃g2 g3 mv,aQ AP.A 362 [AK (h.next+1)] g1=some (.bJ [],g2)∧Lp AP.A [3,4,7] AP.f359L1 [(3,.aD h.next 0 C.length 1),(4,.aC (h.next+1) 0),(7,.int .i64 C.length)] g2=some (.exit 2,[(3,.aD h.next 0 C.length 1),(4,.aC (h.next+1) 0),(7,mv),(41,.bool false)],g3)∧g3.get h.next=some (ints (zo C))∧g3.floor=h.next:=by
  by_cases hl:1≤l.length
  · obtain⟨id,z,m,sm⟩:=JA b1 hC pos hl
    have ll:=b1.ll
    obtain⟨i1,i2⟩:=E9 (ky:=wz (Cx l C)) (n:=l.length) (l.length/2) l (uv _) (fun c h0 hc hp=>by omega)
    have k:=J8 z
    have z2:=z.set i2
    have hs:(u0 C).sum<1000000000000000:=by
     have:=zP (u0 C) 2147483647 (fun y hy=>(pos y (xq C y hy).1).2)
     have wl:=vW 0 C
     rw[vw]at wl
     have:(2147483647:Int)* ((u0 C).length:Nat)≤2147483647* 1000:=Int.mul_le_mul_of_nonneg_left (by omega) (by omega)
     omega
    have pl:=i2.length_eq
    have m2:Mz h.dG (g1.set id (vT (yK (ky:=wz (Cx l C)) l.length (l.length/2) l)++[])) (h.next+1) id h.next (u0 C).length C.length [] (yK (ky:=wz (Cx l C)) l.length (l.length/2) l) (Cx l C) (List.replicate C.length 0):=by
     refine⟨z2,m.ext.set m.li _,by simpa using m.fl,by simpa using m.Ig,m.la,m.li,m.lo,by rw[uV m.no.2];exact m.go,m.no,m.ol,by rw[pl];exact m.ob,fun t ht=> ?_,fun t ht=>m.wb t (i2.mem_iff.1 ht)⟩
     obtain⟨a1,sv,q1,q2,q3,q4,q5⟩:=m.tr t (i2.mem_iff.1 ht)
     obtain⟨_,a2,_⟩:=z.tr t (i2.mem_iff.1 ht)
     exact⟨a1,sv,by rw[uV a2];exact q1,q2.vE fun j hj=>uV (q5 j hj).2.1,q3,q4,q5⟩
    obtain⟨h',t,rc',tr',s',O',mv,L,sm',go',fl'⟩:=Cp (n:=(u0 C).length) (N:=C.length) (by have:=vW 0 C;rw[vw]at this;omega) (by omega) hs (l.length-1) _ _ _ _ _ _ _ (by omega) m2 (sm.perm i2.symm) (by rw[pl];exact i1)
    have e0:C.length+((u0 C).length-(yK (ky:=wz (Cx l C)) l.length (l.length/2) l).length)=C.length:=by omega
    rw[e0]at L
    have:=Et.Po rfl sm'
    exact⟨_,h',mv,k,L,by rw[go',this];rfl,fl'⟩
  · have el:l=[]:=Q2 (by omega)
    subst el
    have av0:av=.aO:=by
     rcases b1.own.2 with ⟨q,_⟩|⟨id,_,_,_,q⟩
     · exact q
     · simp at q
    have ga1:=b1.ga
    rw[av0]at ga1
    have k0:∀g:H,aQ AP.A 363 [.aO] g=some (.int .i64 0,g):=fun g=>by
     refine sY (fn:=AP.f363) (e:=[(2,.int .i64 0)]) (vs:=[.int .i64 0]) rfl rfl rfl (by simp (disch:=omega)only[go_sem,vo,AP.f363,DP]) rfl
    have LI:Lp AP.A [0,2,3] AP.f362L0 [(0,AK (h.next+1)),(2,.int .i64 0),(3,.int .i64 (-1))] g1=some (.exit 0,[(0,AK (h.next+1)),(2,.int .i64 0),(3,.int .i64 (-1)),(10,.bool false)],g1):=by
     refine sJ ?_
     have c:¬(0:Int)≤-1:=by omega
     simp (disch:=omega)only[go_sem,vo,AP.f362L0,c]
    have hq:=Gd (n:=0) (by omega)
    have hq':bh .quo (.int .i64 0) (.int .i64 2)=some (.int .i64 0):=hq
    refine⟨g1,g1,.int .i64 C.length, ?_,sJ ?_, ?_,b1.fl⟩
    · refine vJ (fn:=AP.f362) (e:=[]) (vs:=[]) rfl rfl rfl ?_ rfl
      simp (disch:=omega)only[go_sem,vo,AP.f362,ga1,k0,hq',rH,LI]
    · have c:¬(1:Int)<0:=by omega
      simp (disch:=omega)only[go_sem,vo,AP.f359L1,ga1,k0,c]
    · rw[b1.go]
      have e:u0 C=[]:=Q2 (by have:=b1.ll;simp at this;omega)
      have e2:uZ 0 C=[]:=Q2 (by rw[vw,e];rfl)
      unfold zo
      rw[e2];rfl
 have own:vG 1 g3 (.aD h.next 0 C.length 1) C.length (ints (zo C)):=⟨by rw[pf,HK];omega,.inr ⟨h.next,rfl,g4,by omega,by omega⟩⟩
 have s1:=own.zf (fl:=h.next) (m:=14) (t:=true) (by omega)
 refine tB (fn:=AP.f359) (h2:=g3) (e:=[(2,.aD h.next 0 C.length 1)]) (vs:=[.aD h.next 0 C.length 1]) rfl rfl rfl ?_ rfl s1
 clear own s1 b1 b0 L1 rd yh pos go ga g4
 simp (disch:=first|omega|(simp only[wm,QG,QI,uC,Nat.reduceAdd];first|done|omega|fail)|(simp (disch:=first|omega|(simp only[wm,QG,QI,uC,Nat.reduceAdd];first|done|omega|fail)|fail)only[wm,Bs,QK,QG,QI,uC,Nat.reduceAdd];done)|fail)only[go_sem,vo,Br,AP.f359,ln,←eg0,rH,L1',k1,L2]
theorem O8 {a b c x:aF} {e e':Env} {h h':H} {q:dk} (k:aK (aQ AP.A) bo (.seq a (.seq b c)) e h=some (.normal,e',h')) (z:aK (aQ AP.A) bo x e' h'=q):aK (aQ AP.A) bo (.seq a (.seq b (.seq c x))) e h=q:=by
 have st:∀{a b b':aF} {e:Env} {h:H},(∀e h,aK (aQ AP.A) bo b e h=some (.normal,e',h')→aK (aQ AP.A) bo b' e h=q)→aK (aQ AP.A) bo (.seq a b) e h=some (.normal,e',h')→aK (aQ AP.A) bo (.seq a b') e h=q:=fun {a b b' e h} f k=>by
  rw[ri]at k ⊢
  cases hq:aK (aQ AP.A) bo a e h with
  |none=>rw[hq]at k;cases k
  | some r =>
    obtain⟨ex,ev,hr⟩:=r
    cases ex with
    |normal=>rw[hq,rY]at k;rw[rY];exact f _ _ k
    |exit i=>rw[hq]at k;cases k
    |ret=>rw[hq]at k;cases k
 refine st (fun e h=>st fun e h k=> ?_) k
 rw[ri,k,rY];exact z
theorem Fg {v:AV} {l:List Int} (hl:l.length<100000) (h:H) (rd:Rd h v (ints l)):∀(q p:List Int) (m:Int),l=p++q→
 ∃e',Lp AP.A [0,3,4] AP.f360L0 [(0,v),(3,.int .i64 m),(4,.int .i64 p.length)] h=some (.exit 0,e',h)∧look e' 3=.int .i64 (zG q m)
 | [], p, m, hp => by
   rw[QY]at hp;subst hp
   have ln:=rd.len
   rw[pf]at ln
   simp only[I]at ln
   refine⟨[(0,v),(3,.int .i64 m),(4,.int .i64 l.length),(15,.bool false)],sJ ?_,rfl⟩
   simp (disch:=omega)only[go_sem,vo,AP.f360L0,ln]
 | y :: q, p, m, hp => by
   have ln:=rd.len
   rw[pf]at ln
   simp only[I]at ln
   have hlen:l.length=p.length+(q.length+1):=by rw[hp];simp
   obtain⟨ad,a1,a2⟩:=rd.wF
   have b1:=a1 p.length ⟨by omega,by omega⟩
   have b2:=a2 h (Ext.refl h) p.length y (by rw[hp];simp)
   obtain⟨e',L,r⟩:=Fg hl h rd q (p++[y]) (Co m y) (by rw[hp];simp)
   have w1:((p++[y]).length:Int)=(p.length:Int)+1:=by simp
   rw[w1]at L
   refine⟨e',sK ?_ L,r⟩
   clear L rd a1 a2 hp
   simp (disch:=omega)only[go_sem,vo,AP.f360L0,ln,b1,b2,Gl,DQ]
theorem KD (h:H) (v:AV) (l:List Int) (h1:1≤l.length) (hl:l.length<100000) (rd:Rd h v (ints l)):∃M,aQ AP.A 360 [v] h=some (.int .i64 M,h)∧∀m,M≤m↔∀y∈l,y≤m:=by
 obtain⟨y,r,rfl⟩:∃y r,l=y::r:=by
  cases l with
  |nil=>simp at h1
  |cons y r=>exact⟨y,r,rfl⟩
 have yh:Rd h.dG v (ints (y::r)):=rd.mono (vb h)
 have ln:=rd.len
 rw[pf]at ln
 simp only[I]at ln
 obtain⟨ad,a1,a2⟩:=yh.wF
 have b1:=a1 0 ⟨by omega,by simp⟩
 have b2:=a2 h.dG (Ext.refl _) 0 y rfl
 obtain⟨e',L,q⟩:=Fg hl h.dG yh r [y] y rfl
 have L':Lp AP.A [0,3,4] AP.f360L0 [(0,v),(3,.int .i64 y),(4,.int .i64 1)] h.dG=some (.exit 0,e',h.dG):=L
 refine⟨zG r y,tB (fn:=AP.f360) (h2:=h.dG) (e:=[(2,.int .i64 (zG r y))]) (vs:=[.int .i64 (zG r y)]) rfl rfl rfl ?_ rfl rfl,fun m=>⟨fun h z hz=> ?_,fun h=>Am r y m (fun d hd=>h d (by simp [hd])) (h y (by simp))⟩⟩
 · have c:¬(((y::r).length:Nat):Int)<1:=by simp;omega
   have b2':bN false 1 (ad 0) h.dG=some (.int .i64 y):=b2
   generalize (((y::r).length:Nat):Int)=N at *
   clear rd yh a1 a2 L
   simp (disch:=omega)only[go_sem,vo,AP.f360,ln,c,b1,b2',rH,L',q]
 · have:=BB r y
   rcases uO.1 hz with e|e
   · subst e;omega
   · have:=this.2 z e;omega
theorem Fa {v:AV} {l:List Int} (hl:l.length<1125899906842624) (h:H) (rd:Rd h v (ints l)):∀(q p:List Int),l=p++q→(0:Int)∈q→
 ∃e',Lp AP.A [0,1,7,8] AP.f189L0 [(0,v),(1,.int .i64 0),(7,.int .i64 l.length),(8,.int .i64 p.length)] h=some (.ret,e',h)∧look e' 4=.int .i64 (p.length+yo q:Nat)
 |[],p,hp,h0=>by simp at h0
 | x :: q, p, hp, h0 => by
   have hlen:l.length=p.length+(q.length+1):=by rw[hp];simp
   obtain⟨ad,a1,a2⟩:=rd.wF
   have b1:=a1 p.length ⟨by omega,by omega⟩
   have b2:=a2 h (Ext.refl h) p.length x (by rw[hp];simp)
   rw[yo]
   by_cases c:x=0
   · rw[if_pos c]
     refine⟨[(4,.int .i64 p.length)],td ?_,rfl⟩
     subst c
     clear rd a1 a2 hp
     simp (disch:=omega)only[go_sem,vo,AP.f189L0,b1,b2]
   · rw[if_neg c]
     obtain⟨e',r1,r2⟩:=Fa hl h rd q (p++[x]) (by rw[hp];simp) (by rcases uO.1 h0 with q|q;exact absurd q.symm c;exact q)
     have w1:((p++[x]).length:Int)=(p.length:Int)+1:=by simp
     rw[w1]at r1
     refine⟨e',sK ?_ r1,by rw[r2];simp;omega⟩
     have cb:((0:Int)==x)=false:=by simp;omega
     clear r1 rd a1 a2 hp
     simp (disch:=omega)only[go_sem,vo,AP.f189L0,b1,b2,c,cb]
theorem O2 (h:H) (v:AV) (l:List Int) (rd:Rd h v (ints l)) (hl:l.length<100000) (h0:(0:Int)∈l):aQ AP.A 189 [v,.int .i64 0] h=some (.int .i64 (yo l:Nat),h):=by
 have yh:Rd h.dG v (ints l):=rd.mono (vb h)
 have ln:=rd.len
 rw[pf]at ln
 simp only[I]at ln
 obtain⟨e',r1,r3⟩:=Fa (by omega) h.dG yh l [] rfl h0
 have r1':Lp AP.A [0,1,7,8] AP.f189L0 [(0,v),(1,.int .i64 0),(7,.int .i64 l.length),(8,.int .i64 0)] h.dG=some (.ret,e',h.dG):=r1
 simp only[QI,uC]at r3
 refine tB (fn:=AP.f189) (h2:=h.dG) (e:=e') (vs:=[.int .i64 (yo l:Nat)]) rfl rfl rfl ?_ (by simp only[AP.f189,cm,mO,r3];rfl) rfl
 clear rd yh r1 r3
 simp (disch:=omega)only[go_sem,vo,AP.f189,ln,rH,r1']
theorem A5 {v:AV} {l:List Int} (hl:l.length<100000) (h:H) (rd:Rd h v (ints l)):∀(q p:List Int) (m:Nat),l=p++q→m≤p.length→
 ∃e',Lp AP.A [3,6,7,8] AP.f358L0 [(3,.int .i64 m),(6,v),(7,.int .i64 l.length),(8,.int .i64 p.length)] h=some (.exit 0,e',h)∧look e' 3=.int .i64 (m+xG q:Nat)
 | [], p, m, hp, hm => by
   rw[QY]at hp;subst hp
   refine⟨[(3,.int .i64 m),(6,v),(7,.int .i64 l.length),(8,.int .i64 l.length),(9,.bool false)],sJ ?_,rfl⟩
   simp (disch:=omega)only[go_sem,vo,AP.f358L0]
 | y :: q, p, m, hp, hm => by
   have hlen:l.length=p.length+(q.length+1):=by rw[hp];simp
   obtain⟨ad,a1,a2⟩:=rd.wF
   have b1:=a1 p.length ⟨by omega,by omega⟩
   have b2:=a2 h (Ext.refl h) p.length y (by rw[hp];simp)
   have c1:((p.length:Nat):Int)<l.length:=by omega
   have w1:((p++[y]).length:Int)=(p.length:Int)+1:=by simp
   by_cases c:0<y
   · obtain⟨e',L,r⟩:=A5 hl h rd q (p++[y]) (m+1) (by rw[hp];simp) (by simp;omega)
     rw[w1]at L
     refine⟨e',sK ?_ L,by rw[r];unfold xG;rw[u0,if_pos c,QG];congr 1;omega⟩
     have w2:((m+1:Nat):Int)=(m:Int)+1:=by omega
     rw[w2]
     clear L rd a1 a2 hp
     simp (disch:=omega)only[go_sem,vo,AP.f358L0,c1,b1,b2,c]
   · obtain⟨e',L,r⟩:=A5 hl h rd q (p++[y]) m (by rw[hp];simp) (by simp;omega)
     rw[w1]at L
     refine⟨e',sK ?_ L,by rw[r];unfold xG;rw[u0,if_neg c]⟩
     clear L rd a1 a2 hp
     simp (disch:=omega)only[go_sem,vo,AP.f358L0,c1,b1,b2,c]
theorem JJ (h:H) (v:AV) (l:List Int) (rd:Rd h v (ints l)) (hl:l.length<100000):aQ AP.A 358 [v] h=some (.int .i64 (xG l:Nat),h):=by
 have yh:Rd h.dG v (ints l):=rd.mono (vb h)
 have ln:=rd.len
 rw[pf]at ln
 simp only[I]at ln
 obtain⟨e',L,r⟩:=A5 hl h.dG yh l [] 0 rfl (by simp)
 have L':Lp AP.A [3,6,7,8] AP.f358L0 [(3,.int .i64 0),(6,v),(7,.int .i64 l.length),(8,.int .i64 0)] h.dG=some (.exit 0,e',h.dG):=L
 rw[uC]at r
 refine tB (fn:=AP.f358) (h2:=h.dG) (e:=[(2,.int .i64 (xG l:Nat))]) (vs:=[.int .i64 (xG l:Nat)]) rfl rfl rfl ?_ rfl rfl
 clear rd yh L
 simp (disch:=omega)only[go_sem,vo,AP.f358,ln,rH,L',r]
def HC (v:AV):Bool:=match v with| .int _ n=>decide (n<0)||decide (2147483647<n)|_=>true
theorem NJ (n:Int) (h:H):aQ AP.A 357 [.int .i64 n] h=some (.bool (HC (.int .i64 n)),h):=by
 by_cases c1:n<0
 · refine tB (fn:=AP.f357) (h2:=h.dG) (e:=[(2,.bool true)]) (vs:=[.bool true]) rfl rfl rfl ?_ rfl ?_
   · simp (disch:=omega)only[go_sem,vo,AP.f357,c1]
   · simp [HC,c1];rfl
 · refine tB (fn:=AP.f357) (h2:=h.dG) (e:=[(2,.bool (decide (2147483647<n)))]) (vs:=[.bool (decide (2147483647<n))]) rfl rfl rfl ?_ rfl ?_
   · simp (disch:=omega)only[go_sem,vo,AP.f357,c1]
   · simp [HC,c1];rfl
theorem Ct {mv:AV} {n wid:Nat} (hn:n<1000):∀(q p:List Int) (h:H),p.length+q.length=n→(∀y∈q,0≤y∧y<1000000000000)→h.get wid=some (ints (vM p++q))→h.floor≤wid→h.floor≤h.next→
 ∃h',Lp AP.A [1,7,55,56,57] AP.f351L0 [(1,mv),(7,.aD wid 0 n 1),(55,.aD wid 0 n 1),(56,.int .i64 n),(57,.int .i64 p.length)] h=some (.exit 2,[(1,mv),(7,.aD wid 0 n 1),(55,.aD wid 0 n 1),(56,.int .i64 n),(57,.int .i64 n),(58,.bool false)],h')∧h'.get wid=some (ints (vM (p++q)))∧h'.floor=h.floor∧h'.next=h.next∧(∀i,i≠wid→h'.get i=h.get i)
 | [], p, h, hl, hr, hg, hf, hfl => by
   obtain rfl:p.length=n:=by simpa using hl
   refine⟨h,sJ ?_,by simpa using hg,rfl,rfl,fun _ _=>rfl⟩
   simp (disch:=omega)only[go_sem,vo,AP.f351L0]
 | y :: q, p, h, hl, hr, hg, hf, hfl => by
   have yr:=hr y (by simp)
   simp only[QG]at hl
   have n1:(((p++[y]).length:Nat):Int)=(p.length:Int)+1:=by simp
   have hp:(vM p).length=p.length:=y6 p
   have ix:(ints (vM p++y::q))[p.length]?=some (.int .i64 y):=sf (by rw[QR (by omega),hp];simp)
   have il:(ints (vM p++y::q)).length=n:=by rw[pf,uR,hp,QG];omega
   have st:(ints (vM p++y::q)).set p.length (.int .i64 (xJ y))=ints (vM (p++[y])++q):=by
    rw[xz,List.set_append_right _ _ (by omega),hp,Nat.sub_self]
    simp [vM]
   have q1:bh .quo (.int .i64 (y+1)) (.int .i64 2)=some (.int .i64 (xJ y)):=by
    have e:=rk (k:=.i64) (a:=y+1) (b:=2) (by omega)
    rw[e,Int.tdiv_eq_ediv_of_nonneg (by omega),wi (by omega)];rfl
   have c1:((p.length:Nat):Int)<n:=by omega
   have g2:(h.set wid (ints (vM (p++[y])++q))).get wid=some (ints (vM (p++[y])++q)):=by rw[vi rfl,hg];rfl
   obtain⟨h',k1,k2,k3,k4,k5⟩:=Ct (mv:=mv) hn q (p++[y]) (h.set wid (ints (vM (p++[y])++q))) (by simp;omega) (fun e he=>hr e (by simp [he])) g2 (by simpa using hf) (by simpa using hfl)
   refine⟨h',sK ?_ k1,by rw[k2];simp,by rw[k3];simp,by rw[k4];simp,fun i hi=>by rw[k5 i hi,uV hi]⟩
   rw[n1]
   clear k1 k2 k3 k4 k5 g2 hr
   generalize ints (vM p++y::q)=A at *
   generalize ints (vM (p++[y])++q)=B at *
   simp (disch:=omega)only[go_sem,vo,AP.f351L0,c1,ix,il,st,q1,hg]
theorem HP {C:List Int} (h:∀y∈C,0≤y∧y≤2147483647):∀y∈vM C,0≤y∧y≤2147483647:=fun y hy=>by
 obtain⟨z,hz,rfl⟩:=QP.1 hy
 have:=h z hz
 unfold xJ;omega
theorem Hc {m : Nat} {S : List Int} {n wid : Nat} (hn1 : 1 ≤ n) (hn : n < 1000) (nd : (S.map Int.toNat).Nodup) (hr : ∀ s ∈ S, s.toNat < n) : ∀ (K : Nat) (C O : List Int) (h : H), wo m K (u0 C) → C.length = n → uZ 0 C = S → (∀ y ∈ C, 0 ≤ y ∧ y ≤ 2147483647) → O.length = n → (∀ p, p < n → (∀ s ∈ S, s.toNat ≠ p) → O[p]? = some 0) → h.get wid = some (ints C) → h.floor ≤ wid → h.floor ≤ h.next →
 ∃h' v,Lp AP.A [1,7] AP.f351L1 [(1,.int .i64 m),(7,.aD wid 0 n 1)] h=some (.ret,[(4,v),(5,.int .i64 0)],h')∧v=yD 1 n (ints (xL S K (u0 C) O))∧h'.floor=h.floor
 | 0, C, O, h, r, hC, hS, hp, hO, hz, hg, hf, hfl => by
   cases r with
   | last o c =>
     have wl:(u0 C).length=S.length:=by rw[←vw 0 C,hS]
     have rd:Rd h (.aD wid 0 n 1) (ints C):=vG.yh (by
      rw[pf]
      exact⟨by rw[pf];omega,.inr ⟨wid,by rw[hC],hg,hf,by omega⟩⟩)
     have k1:=IB h _ C (by omega) (by omega) rd hp
     have e:zo C=xL S 0 (u0 C) O:=by
      unfold zo
      rw[xL,hS,hC]
      exact(wZ (by rw[vQ,wl]) nd hO hr hz).symm
     rw[hC,e]at k1
     have lr:(xL S 0 (u0 C) O).length=n:=by rw[AN,hO]
     obtain⟨M,k2,k3⟩:=KD h (yD 1 n (ints (xL S 0 (u0 C) O))) (xL S 0 (u0 C) O) (by omega) (by omega) (by have:=zN h (xL S 0 (u0 C) O);rwa [lr]at this)
     have c':M≤m:=by
      rw[k3,xL]
      rw[wZ (by rw[vQ,wl]) nd hO hr hz]
      exact(CC (by rw[vQ,wl]) nd hr (by omega)).2 c
     refine⟨h,_,td ?_,rfl,rfl⟩
     clear k3 rd nd hr hz
     simp (disch:=omega)only[go_sem,vo,AP.f351L1,k1,k2,c']
 | K + 1, C, O, h, r, hC, hS, hp, hO, hz, hg, hf, hfl => by
   cases r with
   | more o c hne r =>
     have wl:(u0 C).length=S.length:=by rw[←vw 0 C,hS]
     have rd:Rd h (.aD wid 0 n 1) (ints C):=vG.yh (by
      rw[pf]
      exact⟨by rw[pf];omega,.inr ⟨wid,by rw[hC],hg,hf,by omega⟩⟩)
     have k1:=IB h _ C (by omega) (by omega) rd hp
     have e:zo C=vA S (u6 (u0 C)) O:=by
      unfold zo
      rw[hS,hC]
      exact(wZ (by rw[vQ,wl]) nd hO hr hz).symm
     rw[hC,e]at k1
     have lr:(vA S (u6 (u0 C)) O).length=n:=by rw[vV,hO]
     obtain⟨M,k2,k3⟩:=KD h (yD 1 n (ints (vA S (u6 (u0 C)) O))) (vA S (u6 (u0 C)) O) (by omega) (by omega) (by have:=zN h (vA S (u6 (u0 C)) O);rwa [lr]at this)
     have c':¬M≤m:=by
      rw[k3]
      rw[wZ (by rw[vQ,wl]) nd hO hr hz]
      intro q
      have:=(CC (by rw[vQ,wl]) nd hr (by omega)).1 q
      omega
     have hpn:∀y∈C,0≤y:=fun y hy=>(hp y hy).1
     obtain⟨s1,s2⟩:=Bn 0 C hpn
     obtain⟨h1,L,g1,f1,n1,_⟩:=Ct (mv:=.int .i64 m) hn C [] h (by simpa using hC) (fun y hy=>by have:=hp y hy;omega) hg hf hfl
     have L':Lp AP.A [1,7,55,56,57] AP.f351L0 [(1,.int .i64 m),(7,.aD wid 0 n 1),(55,.aD wid 0 n 1),(56,.int .i64 n),(57,.int .i64 0)] h=_:=L
     obtain⟨h',v,L2,r2,f2⟩:=Hc hn1 hn nd hr K (vM C) (vA S (u6 (u0 C)) O) h1 (by rw[s2];exact r) (by rw[y6,hC]) (by rw[s1,hS]) (HP hp) (by rw[vV,hO]) (fun p hp hq=>by rw[wc _ _ _ _ hq];exact hz p hp hq) g1 (by omega) (by omega)
     refine⟨h',v,sK ?_ L2,by rw[r2,s2];rfl,by omega⟩
     clear k3 rd nd hr hz L L2 r2 hp hpn g1
     simp (disch:=omega)only[go_sem,vo,AP.f351L1,k1,k2,c',yE,rH,L']
theorem Ef (h : H) (x : AV) (C : List Int) (m K : Nat) (h2 : 2 ≤ C.length) (hn : C.length ≤ 288) (rd : Rd h x (ints C)) (hm : 1 ≤ m ∧ m ≤ 15) (hr : ∀ y ∈ C, 0 ≤ y ∧ y ≤ 2147483647) (hs : xG C ≤ 2 ^ m) (ro : wo m K (v8 C)) :
 aQ AP.A 351 [x,.int .i64 m] h=some (.bJ [yD 1 C.length (ints (vL C K)),.int .i64 0],h):=by
 have yh:Rd h.dG x (ints C):=rd.mono (vb h)
 have ln:=rd.len
 rw[pf]at ln
 simp only[I]at ln
 have pos:∀y∈C,0≤y:=fun y hy=>(hr y hy).1
 have kb:=BU HC (x:=x) (fv:=.fn 357 [] []) (cs:=ints C) (fun v hv g=>by
  obtain⟨n,_,rfl⟩:=QP.1 hv
  rw[nq];exact NJ n g) (by rw[pf];omega) h.dG yh
 have nb:(ints C).any HC=false:=by
  rw[List.any_eq_false]
  intro v hv
  obtain⟨n,hn',rfl⟩:=QP.1 hv
  have:=hr n hn'
  simp [HC,I];omega
 rw[nb]at kb
 have ku:=JJ h.dG x C yh (by omega)
 have s1:oM .shl .i64 1 (m:Int)=some (.int .i64 ((2^m:Nat):Int)):=by
  have:=Av (a:=1) (s:=m) (by omega) (by
   have:2^m≤2^15:=QX (by omega) hm.2
   omega)
  rwa [Nat.one_mul]at this
 have kc:=J0 h.dG x C yh (by omega) (by omega) (by simp)
 obtain⟨g,eg⟩:∃g,g=((h.dG.alloc []).del h.dG.next).alloc (ints C):=⟨_,rfl⟩
 rw[←eg]at kc
 have gg:g.get (h.next+1)=some (ints C):=by rw[eg,u9 (by simp)]
 have gf:g.floor=h.next:=by rw[eg];simp
 have gn:g.next=h.next+2:=by rw[eg];simp
 have rdg:Rd g (.aD (h.next+1) 0 C.length 1) (ints C):=vG.yh (by
  rw[pf]
  exact⟨by rw[pf];omega,.inr ⟨h.next+1,rfl,gg,by omega,by omega⟩⟩)
 have ku2:=JJ g _ C rdg (by omega)
 obtain ⟨g2, P, q1, q2, q3⟩ : ∃ g2, aK (aQ AP.A) bo (at_ 4 AP.f351.body) [(1, .int .i64 m), (7, .aD (h.next + 1) 0 C.length 1)] g = some (.normal, [(1, .int .i64 m), (7, .aD (h.next + 1) 0 C.length 1)], g2) ∧ g2.get (h.next + 1) = some (ints (Cr C)) ∧ g2.floor = h.next ∧ g2.next = h.next + 2 := by
  unfold Cr
  by_cases c:xG C=1
  · rw [if_pos c]
    have z0:(0:Int)∈C:=by
     refine Q0 fun q=> ?_
     have:∀D:List Int,(∀y∈D,0<y)→(u0 D).length=D.length:=by
      intro D
      induction D with
      |nil=>intro _;rfl
      |cons y D ih=>intro h;rw[u0,if_pos (h y (by simp)),QG,QG,ih fun z hz=>h z (by simp [hz])]
     have:=this C fun y hy=>by
      have:=pos y hy
      by_cases e:y=0
      · subst e;exact absurd hy q
      · omega
     unfold xG at c
     omega
    have kx:=O2 g _ C rdg (by omega) z0
    have il : yo C < C.length := by
     have:∀D:List Int,(0:Int)∈D→yo D<D.length:=by
      intro D
      induction D with
      |nil=>intro h;simp at h
      | cons y D ih =>
        intro h
        rw[yo,QG]
        split
        · omega
        · rename_i e
          rcases uO.1 h with q|q
          · exact absurd q.symm e
          · have:=ih q;omega
     exact this C z0
    rw[c]at ku2
    have st:=xz C (yo C) 1
    refine⟨g.set (h.next+1) (ints (C.set (yo C) 1)), ?_,by rw[vi rfl,gg];rfl,by simpa using gf,by simpa using gn⟩
    have lC:(ints C).length=C.length:=pf C
    have gfl:g.floor≤h.next+1:=by omega
    have ib:cG (.int .i64 (yo C:Nat)) C.length=some (yo C):=by simp [cG,nh,il]
    rw[←st]
    clear rd yh rdg kb ku kc s1 ro hr pos nb st eg
    generalize ints C=A at *
    generalize yo C=i at *
    generalize C.length=n at *
    simp (disch:=omega)only[go_sem,vo,AP.f351,F6,HA,ku2,kx,ib,gg,gfl,lC]
  · rw[if_neg c]
    have cb:(((xG C:Nat):Int)==1)=false:=by simp;omega
    refine⟨g, ?_,gg,gf,gn⟩
    clear rd yh rdg kb ku kc s1 ro hr pos nb eg
    simp (disch:=omega)only[go_sem,vo,AP.f351,F6,HA,ku2,cb]
 obtain⟨p1,p2⟩:=Nj pos h2
 have so:=DJ (Cr C)
 have ppos:∀y∈Cr C,0≤y∧y≤2147483647:=fun y hy=>by
  unfold Cr at hy
  split at hy
  · rcases Ra hy with q|q
    · exact hr y q
    · omega
  · exact hr y hy
 obtain⟨h',v,L,ev,fl'⟩:=Hc (m:=m) (n:=C.length) (wid:=h.next+1) (by omega) (by omega) so.nd (fun s hs=>by have:=so.Nm s hs;rw[Fw]at this;omega) K (Cr C) (List.replicate C.length 0) g2 (by rw[p2];exact ro) (Fw C) rfl ppos (by simp) (fun p hp _=>by rw[Q3,if_pos hp]) q1 (by omega) (by omega)
 rw[p1,p2]at ev
 have ev':v=yD 1 C.length (ints (vL C K)):=ev
 have lo:(vL C K).length=C.length:=wQ C K
 refine tB (fn:=AP.f351) (h2:=h') (e:=[(4,v),(5,.int .i64 0)]) (vs:=[v,.int .i64 0]) rfl rfl rfl ?_ rfl ?_
 · have hb:AP.f351.body=.seq (at_ 0 AP.f351.body) (.seq (at_ 1 AP.f351.body) (.seq (at_ 2 AP.f351.body) (.seq (at_ 3 AP.f351.body) (.seq (at_ 4 AP.f351.body) (KX 5 AP.f351.body))))):=rfl
   have c1:¬(C.length:Int)<2:=by omega
   have c2:¬(288:Int)<(C.length:Int):=by omega
   have c3:¬(m:Int)<1:=by omega
   have c4:¬(15:Int)<(m:Int):=by omega
   have c5:¬((2^m:Nat):Int)<(xG C:Nat):=by omega
   have a012:aK (aQ AP.A) bo (.seq (at_ 0 AP.f351.body) (.seq (at_ 1 AP.f351.body) (at_ 2 AP.f351.body))) (params 0 [x,.int .i64 m]) h.dG=some (.normal,[(0,x),(1,.int .i64 m)],h.dG):=by
    clear rd yh rdg kc ro hr pos nb eg L P ku2 so ppos
    generalize 2^m=M at *
    simp (disch:=omega)only[go_sem,vo,AP.f351,F6,HA,ln,c1,c2,kb,c3,c4,s1,ku,c5]
   have a3:aK (aQ AP.A) bo (at_ 3 AP.f351.body) [(0,x),(1,.int .i64 m)] h.dG=some (.normal,[(1,.int .i64 m),(7,.aD (h.next+1) 0 C.length 1)],g):=by
    clear rd yh rdg ro hr pos nb eg L P ku2 so ppos
    have kc':aQ AP.A 118 [x] h.dG=some (.aD (h.next+1) 0 C.length 1,g):=kc
    simp (disch:=omega)only[go_sem,vo,AP.f351,F6,HA,kc']
   have a5:aK (aQ AP.A) bo (KX 5 AP.f351.body) [(1,.int .i64 m),(7,.aD (h.next+1) 0 C.length 1)] g2=some (.ret,[(4,v),(5,.int .i64 0)],h'):=by
    clear rd yh rdg ro hr pos nb eg P ku2 so ppos
    simp (disch:=omega)only[go_sem,vo,AP.f351,Nv,Nu,rH,L]
   rw[hb]
   refine O8 a012 ?_
   rw[ri,a3,rY,ri,P,rY,a5]
 · have s1:snap h'.get h.next 15 true v=some v:=by
    rw[ev'];unfold yD;split<;>rfl
   show(fm (snap h'.get h.next 15 true) [v,.int .i64 0]).bind _=_
   rw[←ev']
   simp only[fm,s1,uo]
   rfl
theorem CN : ∀ (ts : List Tok) (s : Int), vk s ts = true → ∀ t ∈ ts, xe t ∧ (t.len ≠ 0 → t.lit = 0)
 |[],_,_,t,ht=>by simp at ht
 | k :: ts, s, h, t, ht => by
   rw[vk]at h
   cases e:vF s k with
   |none=>rw[e]at h;cases h
   | some s' =>
     rw[e]at h
     simp only at h
     by_cases c:8192<s'
     · rw[if_pos c]at h;cases h
     · rw [if_neg c] at h
       rcases uO.1 ht with q|q
       · subst q
         unfold vF at e
         by_cases z:t.len=0
         · rw[if_pos z]at e
           split at e
           · cases e
           · exact⟨.inl ⟨z,by omega,by omega⟩,fun n=>absurd z n⟩
         · rw[if_neg z]at e
           split at e
           · cases e
           · exact⟨.inr ⟨by omega,by omega,by omega,by omega⟩,fun _=>by omega⟩
       · exact CN ts s' h t q
theorem GS : ∀ (ts : List Tok) (o : List Nat), vk o.length ts = true → o.length + ts.length ≤ (wg ts o).length
 |[],o,_=>by simp [wg]
 | t :: r, o, h => by
   rw[vk]at h
   cases e:vF o.length t with
   |none=>rw[e]at h;cases h
   | some s' =>
     rw[e]at h
     simp only at h
     have z:=zy e
     have p:(o.length:Int)+1≤s':=by
      unfold vF at e
      split at e
      · split at e
        · cases e
        · have:=ud e;omega
      · split at e
        · cases e
        · have:=ud e;omega
     by_cases c:8192<s'
     · rw[if_pos c]at h;cases h
     · rw[if_neg c,←z]at h
       have:=GS r (vx o t) h
       rw[wg,QG];omega
theorem BX {ts:List Tok} (h:ym ts=true):vk 0 ts=true∧ts.length≤300∧(∀t∈ts,xe t)∧(∀t∈ts,t.len≠0→t.lit=0)∧(wg ts []).length≤300:=by
 unfold ym xh at h
 by_cases m:vk 0 ts=true
 · rw[if_pos m]at h
   simp only[vH,decide_eq_true_eq]at h
   have:=GS ts [] m
   have o:=CN ts 0 m
   exact⟨m,by simp at this;omega,fun t ht=>(o t ht).1,fun t ht=>(o t ht).2,h⟩
 · rw[if_neg m]at h;cases h
theorem Fz (h : H) (v : AV) (ts : List Tok) (hn : ts.length < 1125899906842624) (rd : xH 3 h v ts.length (vB ts)) : aQ AP.A 326 [v] h = some (if ym ts = true then .bJ [.str (bytesOf (vm (yX ts))), .int .i64 0] else .bJ [.str ⟨#[]⟩, .int .i64 800], h) := by
 have rd0:xH 3 h.dG v ts.length (vB ts):=rd.mono fun i c q=>q
 have k1:=Gs h.dG v ts hn rd0
 by_cases zC:ym ts=true
 · rw [if_pos zC]
   rw[zC]at k1
   obtain⟨_,hl,tok,lit,_⟩:=BX zC
   have kf:=GW h.dG
   have kc:=yQ h.dG (vK vy) vy (by rw[wP];omega) (by rw[wP];omega) (xc h.dG vy) (.inl (by rw[wU (by rw[wP];omega) (by rw[wP];omega) xy.Nm xy.left,if_pos B5]))
   obtain⟨g,eg⟩:∃g,g=h.dG.alloc [.int .i64 5]:=⟨_,rfl⟩
   have hN:h.dG.next=h.next:=rfl
   have k5:aQ AP.A 43 [.aD h.next 0 1 1,.int .i64 30] g=some (vK wV,g):=by
    have r:=xC g (.aD h.next 0 1 1) 5 30 (by omega) ⟨by
     have gg:g.get h.next=some [.int .i64 5]:=by rw[eg,u9 (by simp)]
     simp [aR,gg];rfl,by intro s e;cases e⟩
    exact r
   have l5:wV.length=30:=by simp [wV]
   have kc5:=yQ g (vK wV) wV (by omega) (by omega) (xc g wV) (.inr (by rw[wU (by omega) (by omega) AE.Nm AE.left,if_neg (by rw[Dc];omega)]))
   obtain⟨g2,eg2⟩:∃g2:H,g2=g:=⟨_,rfl⟩
   have gfl:g.floor=h.next:=by rw[eg];simp
   have gnx:g.next=h.next+1:=by rw[eg];simp
   have x0:=JK (h:=g) (by omega)
   obtain⟨h1,o1,p1,w1,f1⟩:=xb x0.wr 1 1 (by omega) (by omega) (by simp)
   have x1:=x0.step w1 f1
   obtain⟨h2,o2,p2,w2,f2⟩:=xb x1.wr 1 2 (by omega) (by omega) (by simp [vj,vt])
   have x2:=x1.step w2 f2
   have kn:aQ AP.A 345 [] g=some (.aC g.next 0,g.alloc [.aO,.int .i64 0]):=by
    refine sY (fn:=AP.f345) (e:=[(0,.aC g.next 0)]) (vs:=[.aC g.next 0]) rfl rfl rfl ?_ rfl
    simp (disch:=omega)only[go_sem,vo,AP.f345]
   have kb:aQ AP.A 333 [.int .i64 1] g=some (.aC g.next 0,h2):=by
    refine sY (fn:=AP.f333) (e:=[(2,.aC g.next 0)]) (vs:=[.aC g.next 0]) rfl rfl rfl ?_ rfl
    clear x0 x1 x2
    have k1':aQ AP.A 335 [.aC g.next 0,.int .i64 1,.int .i64 1] (g.alloc [.aO,.int .i64 0])=some (.int .i64 0,h1):=p1
    have k2':aQ AP.A 335 [.aC g.next 0,.int .i64 1,.int .i64 2] h1=some (.int .i64 0,h2):=p2
    simp (disch:=omega)only[go_sem,vo,AP.f333,kn,k1',k2']
   have rdg:xH 3 g v ts.length (vB ts):=rd0.mono fun i c q=>by
    have:=h.lt i c q
    rw[eg,u5 (by simp;omega)];exact q
   obtain⟨h3,k3⟩:=He (by omega) g rdg (yS g vy) (yS g wV) (fun t ht=>⟨HO (tok t ht),tok t ht,lit t ht⟩) (Bu xy yY (by rw[wP];omega)) g.next _ h2 o2 x2 (by simp [vj,vt];omega)
   have e:[]++vj 1 1++vj 1 2++(vO (uU vy) (uU wV) ts++u1 (uU vy) 256)=yX ts:=by
    have:([]:List Nat)++vj 1 1++vj 1 2=vj 3 3:=by decide
    rw[this];rfl
   rw[e]at k3
   refine tB (fn:=AP.f326) (h2:=h3) (e:=[(2,.str (bytesOf (vm (yX ts)))),(3,.int .i64 0)]) (vs:=[.str (bytesOf (vm (yX ts))),.int .i64 0]) rfl rfl rfl ?_ rfl rfl
   clear x0 w1 f1 w2 f2 x1 x2 p1 p2 e rd rd0 rdg eg2
   generalize bytesOf (vm (yX ts))=SB at *
   have ic:(vK vy).cells=[vK vy]:=rfl
   generalize vK vy=I1 at *
   generalize vK wV=I2 at *
   generalize yH vy=C1 at *
   generalize yH wV=C2 at *
   rw[gnx]at kb k3
   simp (disch:=omega)only[go_sem,vo,AP.f326,hN,k1,kf,kc,←eg,k5,kc5,kb,k3]
 · rw[if_neg zC]
   rw[Bool.eq_false_iff.2 zC]at k1
   refine tB (fn:=AP.f326) (h2:=h.dG) (e:=[(2,.str ⟨#[]⟩),(3,.int .i64 800)]) (vs:=[.str ⟨#[]⟩,.int .i64 800]) rfl rfl rfl ?_ rfl rfl
   clear rd rd0
   simp (disch:=omega)only[go_sem,vo,AP.f326,k1]
theorem H2 {v:AV} {ts:List Tok} (hn:ts.length<1000000) (h0:H) (rd:xH 3 h0 v ts.length (vB ts)) (ia ib i:Nat) (t:Tok) (ht:ts[i]?=some t) (o:xe t) (tl:t.len≠0→t.lit=0) (hab:ia≠ib) (hia:h0.next≤ia) (hib:h0.next≤ib) {A B:List Int} {h:H} (hx:Ext h0 h) (ga:h.get ia=some (ints A)) (gb:h.get ib=some (ints B)) (hA:A.length=286) (hB:B.length=30) (rA:∀y∈A,0≤y∧y≤(i:Int)+1) (rB:∀y∈B,0≤y∧y≤(i:Int)+1) (fa:h.floor≤ia) (fb:h.floor≤ib) (hfl:h.floor≤h.next):
 ∃h',aK (aQ AP.A) bo AP.f340L0 (ax [(4,.aD ia 0 286 1),(5,.aD ib 0 30 1),(19,v),(20,.int .i64 ts.length),(21,.int .i64 i)] [4,5,19,20,21]) h=some (.normal,[(4,.aD ia 0 286 1),(5,.aD ib 0 30 1),(19,v),(20,.int .i64 ts.length),(21,.int .i64 (i+1:Nat))],h')∧h'.get ia=some (ints (yF [t] A))∧h'.get ib=some (ints (zk [t] B))∧JN h h' ia ib:=by
 obtain⟨ad,a1,a2,a3⟩:=rd.Ny
 have hi:i<ts.length:=(um.1 ht).1
 have hI:(0:Int)≤(i:Int)∧(i:Int)<ts.length:=⟨by omega,by omega⟩
 have b1:=a1 _ hI
 obtain⟨_,_,_,b2⟩:=a3 h hx _ _ ht
 have n1:((i+1:Nat):Int)=(i:Int)+1:=by omega
 have ci:(i:Int)<(ts.length:Int):=hI.2
 have la:(ints A).length=286:=by rw[pf,hA]
 have lb:(ints B).length=30:=by rw[pf,hB]
 have hian:=h.lt _ _ ga
 have hibn:=h.lt _ _ gb
 have step:∀(S B1 V S' B' V':Nat) (cp:Bool),(∀g:H,aQ AP.A 349 [.agg [.int .i64 t.lit,.int .i64 t.len,.int .i64 t.vD]] g=some (.bJ [.agg [.int .i64 S,.int .i64 B1,.int .i64 V],.agg [.int .i64 S',.int .i64 B',.int .i64 V'],.bool cp],g))→S<286→S'<30→
  ∃h',aK (aQ AP.A) bo AP.f340L0 (ax [(4,.aD ia 0 286 1),(5,.aD ib 0 30 1),(19,v),(20,.int .i64 ts.length),(21,.int .i64 i)] [4,5,19,20,21]) h=some (.normal,[(4,.aD ia 0 286 1),(5,.aD ib 0 30 1),(19,v),(20,.int .i64 ts.length),(21,.int .i64 (i+1:Nat))],h')∧h'.get ia=some (ints (wq A S))∧h'.get ib=some (ints (if cp=true then wq B S' else B))∧JN h h' ia ib:=by
  intro S B1 V S' B' V' cp ks hS hS'
  obtain⟨g1,eg1⟩:∃g,g=(h.alloc [.int .i64 0,.int .i64 0,.int .i64 0]).set h.next [.int .i64 t.lit,.int .i64 t.len,.int .i64 t.vD]:=⟨_,rfl⟩
  obtain⟨g2,eg2⟩:∃g,g=(((g1.alloc [.int .i64 0,.int .i64 0,.int .i64 0]).alloc [.int .i64 0,.int .i64 0,.int .i64 0]).set g1.next [.int .i64 S,.int .i64 B1,.int .i64 V]).set (g1.next+1) [.int .i64 S',.int .i64 B',.int .i64 V']:=⟨_,rfl⟩
  have n1':g1.next=h.next+1:=by rw[eg1];simp
  have n2':g2.next=h.next+3:=by rw[eg2];simp;omega
  have f2':g2.floor=h.floor:=by rw[eg2,eg1];simp
  have gt1:g1.get h.next=some [.int .i64 t.lit,.int .i64 t.len,.int .i64 t.vD]:=by rw[eg1,vi rfl,u9 rfl];rfl
  have gk1:∀j,j<h.next→g1.get j=h.get j:=fun j hj=>by rw[eg1,uV (by omega),u5 (by omega)]
  have gk2:∀j,j<h.next→g2.get j=h.get j:=fun j hj=>by rw[eg2,uV (by omega),uV (by omega),u5 (by simp;omega),u5 (by omega),gk1 j hj]
  have gS:g2.get g1.next=some [.int .i64 S,.int .i64 B1,.int .i64 V]:=by rw[eg2,uV (by omega),vi rfl,u5 (by simp),u9 rfl];rfl
  have gT:g2.get (g1.next+1)=some [.int .i64 S',.int .i64 B',.int .i64 V']:=by rw[eg2,vi rfl,uV (by omega),u9 (by simp)];rfl
  have hA2:((g1.alloc [.int .i64 0,.int .i64 0,.int .i64 0]).alloc [.int .i64 0,.int .i64 0,.int .i64 0]).get g1.next=some [.int .i64 0,.int .i64 0,.int .i64 0]:=by rw[u5 (by simp),u9 rfl]
  have hB2:(((g1.alloc [.int .i64 0,.int .i64 0,.int .i64 0]).alloc [.int .i64 0,.int .i64 0,.int .i64 0]).set g1.next [.int .i64 S,.int .i64 B1,.int .i64 V]).get (g1.next+1)=some [.int .i64 0,.int .i64 0,.int .i64 0]:=by rw[uV (by omega),u9 (by simp)]
  have fl1:h.floor≤h.next:=hfl
  have flg:g1.floor≤g1.next:=by rw[n1',eg1];simp;omega
  have ga2:g2.get ia=some (ints A):=by rw[gk2 ia hian,ga]
  have gb2:g2.get ib=some (ints B):=by rw[gk2 ib hibn,gb]
  have gx:=Af (l:=A) (i:=S) (by omega)
  have gy:=Af (l:=B) (i:=S') (by omega)
  have xr:0≤A.getD S 0∧A.getD S 0≤(i:Int)+1:=by
   rw[QF,QH (by omega)]
   exact rA _ (QW _)
  have yr:0≤B.getD S' 0∧B.getD S' 0≤(i:Int)+1:=by
   rw[QF,QH (by omega)]
   exact rB _ (QW _)
  have es:=xz A S (A.getD S 0+1)
  have et:=xz B S' (B.getD S' 0+1)
  change _=ints (wq A S)at es
  change _=ints (wq B S')at et
  have iS:cG (.int .i64 (S:Nat)) 286=some S:=by
   have:(S:Int)<((286:Nat):Int):=by omega
   simp [cG,nh];omega
  have iT:cG (.int .i64 (S':Nat)) 30=some S':=by
   simp [cG,nh];omega
  have ibd:i<1000000:=by omega
  have g3b:(g2.set ia (ints (wq A S))).get ib=some (ints B):=by rw[uV hab.symm,gb2]
  have g3T:(g2.set ia (ints (wq A S))).get (g1.next+1)=some [.int .i64 S',.int .i64 B',.int .i64 V']:=by rw[uV (by omega),gT]
  have fa2:g2.floor≤ia:=by omega
  have fb2:g2.floor≤ib:=by omega
  cases cp with
  | false =>
    refine⟨g2.set ia (ints (wq A S)), ?_,by rw[vi rfl,ga2];rfl,by rw[uV hab.symm,gb2];rfl,⟨by simp [f2'],by simp [n2'],fun j h1 h2 _=>by rw[uV h2,gk2 j h1]⟩⟩
    rw[n1]
    clear rd a1 a2 a3 hx rA rB gk1 gk2 et
    generalize A.getD S 0=z at *
    generalize ints (wq A S)=A2 at *
    generalize ints A=A0 at *
    generalize ints B=B0 at *
    simp (disch:=omega)only[go_sem,vo,AP.f340L0,ci,b1,b2,←eg1,gt1,ks,hA2,hB2,←eg2,gS,iS,ga2,la,gx,es,fa2,JQ,uE,Rl,QZ]
  | true =>
    refine⟨(g2.set ia (ints (wq A S))).set ib (ints (wq B S')), ?_,by rw[uV hab,vi rfl,ga2];rfl,by rw[vi rfl,g3b];rfl,⟨by simp [f2'],by simp [n2'],fun j h1 h2 h3=>by rw[uV h3,uV h2,gk2 j h1]⟩⟩
    rw[n1]
    clear rd a1 a2 a3 hx rA rB gk1 gk2
    generalize A.getD S 0=z at *
    generalize B.getD S' 0=z' at *
    generalize ints (wq A S)=A2 at *
    generalize ints (wq B S')=B2 at *
    generalize ints A=A0 at *
    generalize ints B=B0 at *
    simp (disch:=omega)only[go_sem,vo,AP.f340L0,ci,b1,b2,←eg1,gt1,ks,hA2,hB2,←eg2,gS,iS,ga2,la,gx,es,fa2,fb2,g3b,g3T,iT,lb,gy,et,JQ,uE,Rl,QZ]
 rcases o with ⟨c0,h2,h3⟩|⟨h1,h2,h3,h4⟩
 · obtain⟨y,hy⟩:∃y:Nat,t.lit=y:=QN h2
   have yt:t.lit.toNat=y:=by omega
   obtain⟨h',k,q1,q2,q3⟩:=step y 0 0 0 0 0 false (fun g=>by rw[hy,c0];exact FR g y t.vD) (by omega) (by omega)
   refine⟨h',k, ?_, ?_,q3⟩
   · rw[q1,yF,if_pos c0,yt];rfl
   · rw[q2,zk,if_pos c0];rfl
 · obtain⟨L,hL⟩:∃y:Nat,t.len=y:=QN (by omega)
   obtain⟨K,hK⟩:∃y:Nat,t.vD=y:=QN (by omega)
   have Lt:t.len.toNat=L:=by omega
   have Kt:t.vD.toNat=K:=by omega
   have sl:=xp (k:=L) (by omega) (by omega)
   have sd:=xk (k:=K) (by omega) (by omega)
   obtain⟨h',k,q1,q2,q3⟩:=step (wH L) (yL L) (zF L) (w9 K) (zm K) (Ad K) true (fun g=>by rw[tl (by omega),hL,hK];exact DK g L K (by omega) (by omega) (by omega) (by omega)) (by omega) (by omega)
   refine⟨h',k, ?_, ?_,q3⟩
   · have z:¬t.len=0:=by omega
     rw[q1,yF,if_neg z,Lt];rfl
   · have z:¬t.len=0:=by omega
     rw[q2,zk,if_neg z,Kt];rfl
theorem Dx {v:AV} {ts:List Tok} (hn:ts.length<1000000) (h0:H) (rd:xH 3 h0 v ts.length (vB ts)) (ia ib:Nat) (ok:∀t∈ts,xe t) (lit:∀t∈ts,t.len≠0→t.lit=0) (hab:ia≠ib) (hia:h0.next≤ia) (hib:h0.next≤ib):∀(q p:List Tok) (A B:List Int) (h:H),ts=p++q→Ext h0 h→h0.next≤h.next→h.get ia=some (ints A)→h.get ib=some (ints B)→A.length=286→B.length=30→(∀y∈A,0≤y∧y≤(p.length:Int)+1)→(∀y∈B,0≤y∧y≤(p.length:Int)+1)→h.floor≤ia→h.floor≤ib→h.floor≤h.next→
 ∃h',Lp AP.A [4,5,19,20,21] AP.f340L0 [(4,.aD ia 0 286 1),(5,.aD ib 0 30 1),(19,v),(20,.int .i64 ts.length),(21,.int .i64 p.length)] h=some (.exit 0,[(4,.aD ia 0 286 1),(5,.aD ib 0 30 1),(19,v),(20,.int .i64 ts.length),(21,.int .i64 ts.length),(22,.bool false)],h')∧h'.get ia=some (ints (yF q A))∧h'.get ib=some (ints (zk q B))∧JN h h' ia ib
 | [], p, A, B, h, hp, hx, hnx, ga, gb, hA, hB, rA, rB, fa, fb, hfl => by
   rw[QY]at hp;subst hp
   refine⟨h,sJ ?_,ga,gb,JN.refl h ia ib⟩
   simp (disch:=omega)only[go_sem,vo,AP.f340L0]
 | t :: q, p, A, B, h, hp, hx, hnx, ga, gb, hA, hB, rA, rB, fa, fb, hfl => by
   have ht:ts[p.length]?=some t:=by rw[hp];simp
   have hm:=uz ht
   obtain⟨h1,s1,ga1,gb1,f1⟩:=H2 hn h0 rd ia ib p.length t ht (ok t hm) (lit t hm) hab hia hib hx ga gb hA hB rA rB fa fb hfl
   have n1:(((p++[t]).length:Nat):Int)=((p.length+1:Nat):Int):=by simp
   have hx1:Ext h0 h1:=fun j c hj=>by
    have:=h0.lt _ _ hj
    rw[f1.vE j (by omega) (by omega) (by omega),hx j c hj]
   obtain⟨h',k,g1,g2,f2⟩:=Dx hn h0 rd ia ib ok lit hab hia hib q (p++[t]) (yF [t] A) (zk [t] B) h1 (by rw[hp];simp) hx1 (uP hnx f1.next) ga1 gb1 (by rw[BK,hA]) (by rw[BM,hB]) (fun y hy=>by have:=BL [t] A _ (by omega) rA y hy;simp at this ⊢;omega) (fun y hy=>by have:=BN [t] B _ (by omega) rB y hy;simp at this ⊢;omega) (by rw[f1.floor];exact fa) (by rw[f1.floor];exact fb) (by rw[f1.floor];exact uP hfl f1.next)
   rw[n1]at k
   exact⟨h',sK s1 k,g1,g2,f1.trans f2⟩
theorem CQ (C:List Int):xG C≤C.length:=by
 unfold xG;rw[←vw 0 C];exact vW 0 C
theorem Em {h:H} {id n:Nat} {l:List Int} (g:h.get id=some (ints l)) (hl:l.length=n):Rd h (.aD id 0 n 1) (ints l):=by
 refine⟨?_,by intro s e;cases e⟩
 have:(ints l).length=n:=by rw[pf];exact hl
 simp [aR,g,this,uM]
theorem Gq (h:H) (v:AV) (ts:List Tok) (KA KB:Nat) (hn:ts.length≤300) (ok:∀t∈ts,xe t) (lit:∀t∈ts,t.len≠0→t.lit=0) (ra:wo 15 KA (v8 (dA ts))) (rb:wo 15 KB (v8 (dB ts))) (rd:xH 3 h v ts.length (vB ts)):
 aQ AP.A 340 [v] h=some (.bJ [yD 1 286 (ints (vL (dA ts) KA)),yD 1 30 (ints (vL (dB ts) KB))],h):=by
 have rd0:xH 3 h.dG v ts.length (vB ts):=rd.mono fun i c q=>q
 have ln:=rd.len
 have hN:h.dG.next=h.next:=rfl
 obtain⟨g,eg⟩:∃g,g=(h.dG.alloc (yA 286 [.int .i64 0])).alloc (yA 30 [.int .i64 0]):=⟨_,rfl⟩
 have gA:g.get h.next=some (ints (List.replicate 286 0)):=by rw[eg,u5 (by simp),u9 (by simp),yy]
 have gB:g.get (h.next+1)=some (ints (List.replicate 30 0)):=by rw[eg,u9 (by simp),yy]
 have gf:g.floor=h.next:=by rw[eg];simp
 have gn:g.next=h.next+2:=by rw[eg];simp
 obtain⟨g1,eg1⟩:∃g1,g1=g.set h.next (ints ((List.replicate 286 0).set 256 1)):=⟨_,rfl⟩
 have gA1:g1.get h.next=some (ints ((List.replicate 286 0).set 256 1)):=by rw[eg1,vi rfl,gA];rfl
 have gB1:g1.get (h.next+1)=some (ints (List.replicate 30 0)):=by rw[eg1,uV (by omega),gB]
 have x1:Ext h.dG g1:=by rw[eg1,eg];exact(((Ext.refl _).alloc _).alloc _).set (by simp) _
 obtain⟨h',L,q1,q2,f2⟩:=Dx (by omega) h.dG rd0 h.next (h.next+1) ok lit (by omega) (by simp) (by simp) ts [] ((List.replicate 286 0).set 256 1) (List.replicate 30 0) g1 rfl x1 (by rw[eg1];simp;omega) gA1 gB1 (by simp) (by simp) (fun y hy=>by
  rcases Ra hy with q|q
  · have:=Q5 q;omega
  · simp;omega) (fun y hy=>by have:=Q5 hy;simp;omega) (by rw[eg1];simp;omega) (by rw[eg1];simp;omega) (by rw[eg1];simp;omega)
 have L':Lp AP.A [4,5,19,20,21] AP.f340L0 [(4,.aD h.next 0 286 1),(5,.aD (h.next+1) 0 30 1),(19,v),(20,.int .i64 ts.length),(21,.int .i64 0)] g1=_:=L
 obtain⟨a1,a2,a3⟩:=EO ts hn
 obtain⟨b1,b2⟩:=EP ts hn
 change h'.get h.next=some (ints (dA ts))at q1
 change h'.get (h.next+1)=some (ints (dB ts))at q2
 have k1:=Ef h' (.aD h.next 0 286 1) (dA ts) 15 KA (by omega) (by omega) (Em q1 a1) (by omega) a2 (by have:=CQ (dA ts);omega) ra
 have k2:=Ef h' (.aD (h.next+1) 0 30 1) (dB ts) 15 KB (by omega) (by omega) (Em q2 b1) (by omega) b2 (by have:=CQ (dB ts);omega) rb
 rw[a1]at k1
 rw[b1]at k2
 obtain⟨V1,e1⟩:∃V,V=yD 1 286 (ints (vL (dA ts) KA)):=⟨_,rfl⟩
 obtain⟨V2,e2⟩:∃V,V=yD 1 30 (ints (vL (dB ts) KB)):=⟨_,rfl⟩
 rw[←e1]at k1 ⊢
 rw[←e2]at k2 ⊢
 refine tB (fn:=AP.f340) (h2:=h') (e:=[(2,V1),(3,V2)]) (vs:=[V1,V2]) rfl rfl rfl ?_ rfl ?_
 · have st:(ints (List.replicate 286 0)).set 256 (.int .i64 1)=ints ((List.replicate 286 0).set 256 1):=xz _ _ _
   have lA:(ints (List.replicate 286 0)).length=286:=by simp
   have ga':g.get h.next=some (ints (List.replicate 286 0)):=gA
   have k1':aQ AP.A 351 [.aD h.next 0 286 1,.int .i64 15] h'=some (.bJ [V1,.int .i64 0],h'):=k1
   have k2':aQ AP.A 351 [.aD (h.next+1) 0 30 1,.int .i64 15] h'=some (.bJ [V2,.int .i64 0],h'):=k2
   rw[←st]at eg1
   clear L q1 q2 f2 x1 rd rd0 ra rb a2 b2 k1 k2 gB gA1 gB1 st ok lit
   generalize ints (List.replicate 286 0)=A0 at *
   have hN2:(h.dG.alloc (yA 286 [.int .i64 0])).next=h.next+1:=by simp
   simp (disch:=omega)only[go_sem,vo,AP.f340,hN,hN2,←eg,ga',lA,gf,←eg1,ln,rH,L',k1',k2']
 · have s1:snap h'.get h.next 15 true V1=some V1:=by rw[e1];unfold yD;rfl
   have s2:snap h'.get h.next 15 true V2=some V2:=by rw[e2];unfold yD;rfl
   show(fm (snap h'.get h.next 15 true) [V1,V2]).bind _=_
   simp only[fm,s1,s2,uo]
theorem zM {x : AV} {l : List Int} (hl : l.length < 1000) (pos : ∀ y ∈ l, 0 ≤ y) (h : H) (rd : Rd h x (ints l)) (k : Nat) : ∀ i : Nat, k ≤ i → i ≤ l.length →
 ∃e',Lp AP.A [0,1,5] AP.f342L0 [(0,x),(1,.int .i64 k),(5,.int .i64 i)] h=some (.exit 0,e',h)∧look e' 0=x∧look e' 5=.int .i64 (vu l k i:Nat)
 | 0, hk, hi => by
   obtain rfl:k=0:=by omega
   refine⟨[(0,x),(1,.int .i64 (0:Nat)),(5,.int .i64 (0:Nat)),(18,.bool false)],sJ ?_,rfl,rfl⟩
   have c:¬((0:Nat):Int)<((0:Nat):Int):=by omega
   generalize ((0:Nat):Int)=z at *
   simp (disch:=omega)only[go_sem,vo,AP.f342L0,c]
 | i + 1, hk, hi => by
   by_cases c:i+1≤k
   · obtain rfl:k=i+1:=by omega
     refine⟨[(0,x),(1,.int .i64 (i+1:Nat)),(5,.int .i64 (i+1:Nat)),(18,.bool false)],sJ ?_,rfl,by rw[vu,if_pos c];rfl⟩
     have c:¬((i+1:Nat):Int)<((i+1:Nat):Int):=by omega
     generalize ((i+1:Nat):Int)=z at *
     simp (disch:=omega)only[go_sem,vo,AP.f342L0,c]
   · obtain⟨ad,a1,a2⟩:=rd.wF
     have b1:=a1 i ⟨by omega,by omega⟩
     have lg:l[i]?=some (l.getD i 0):=by rw[QF,QH (by omega)];rfl
     have b2:=a2 h (Ext.refl h) i _ lg
     have yp:=pos _ (uz lg)
     have n1:((i+1:Nat):Int)-1=(i:Int):=by omega
     have c1:(k:Int)<((i+1:Nat):Int):=by omega
     rw[vu,if_neg c]
     generalize l.getD i 0=y at *
     have sb:((i+1:Nat):Int)<100000:=by omega
     have sb0:0≤((i+1:Nat):Int):=by omega
     by_cases c2:0<y
     · rw[if_pos c2]
       refine⟨[(0,x),(1,.int .i64 k),(5,.int .i64 (i+1:Nat)),(18,.bool false)],sJ ?_,rfl,rfl⟩
       have cb:(y==0)=false:=by simp;omega
       generalize ((i+1:Nat):Int)=z at *
       clear rd a1 a2 pos
       simp (disch:=omega)only[go_sem,vo,AP.f342L0,c1,n1,b1,b2,cb]
     · rw[if_neg c2]
       have cb:(y==0)=true:=by simp;omega
       obtain⟨e',L,r1,r2⟩:=zM hl pos h rd k i (by omega) (by omega)
       refine⟨e',sK ?_ L,r1,r2⟩
       clear L
       generalize ((i+1:Nat):Int)=z at *
       clear rd a1 a2 pos
       simp (disch:=omega)only[go_sem,vo,AP.f342L0,c1,n1,b1,b2,cb]
theorem DD (h:H) (l:List Int) (h1:1≤l.length) (hl:l.length<1000) (pos:∀y∈l,0≤y) (k:Nat) (hk:k≤l.length):aQ AP.A 342 [yD 1 l.length (ints l),.int .i64 k] h=some (.aU false (ints l) 0 (vu l k l.length) 1,h):=by
 have ex:yD 1 l.length (ints l)=.aU false (ints l) 0 l.length 1:=by unfold yD;rw[if_neg (by omega)]
 rw[ex]
 have yh:Rd h.dG (.aU false (ints l) 0 l.length 1) (ints l):=by rw[←ex];exact zN h.dG l
 obtain⟨e',L,r1,r2⟩:=zM hl pos h.dG yh k l.length hk (uv _)
 have ur:=v5 l k l.length
 have s1:rz h.dG 1 (.aU false (ints l) 0 l.length 1) none (some (.int .i64 (vu l k l.length:Nat))) none=some (.aU false (ints l) 0 (vu l k l.length) 1):=by
  have:vu l k l.length≤l.length:=by omega
  have q:(ints l).length=l.length:=pf l
  simp [rz,aA,jQ,nh,q,this]
 refine tB (fn:=AP.f342) (h2:=h.dG) (e:=[(4,.aU false (ints l) 0 (vu l k l.length) 1)]) (vs:=[.aU false (ints l) 0 (vu l k l.length) 1]) rfl rfl rfl ?_ rfl rfl
 clear yh pos ex ur
 generalize vu l k l.length=U at *
 generalize ints l=P at *
 simp (disch:=omega)only[go_sem,vo,AP.f342,F3,rH,L,r1,r2,s1]
theorem Ia (h:H) (id:Nat) (l:List Int) (g:h.get id=some (ints l)) (hl:l.length<1000) (pos:∀y∈l,0≤y) (k:Nat) (hk:k≤l.length):aQ AP.A 342 [.aD id 0 l.length 1,.int .i64 k] h=some (.aD id 0 (vu l k l.length) 1,h):=by
 have yh:Rd h.dG (.aD id 0 l.length 1) (ints l):=(Em g rfl).mono (vb h)
 obtain⟨e',L,r1,r2⟩:=zM hl pos h.dG yh k l.length hk (uv _)
 have ur:=v5 l k l.length
 have gl:=h.lt _ _ g
 have s1:rz h.dG 1 (.aD id 0 l.length 1) none (some (.int .i64 (vu l k l.length:Nat))) none=some (.aD id 0 (vu l k l.length) 1):=by
  have q:(ints l).length=l.length:=pf l
  have:=KJ (h:=h.dG) (m:=(vu l k l.length:Nat)) (p:=id) (o:=0) (k:=l.length) (n:=1) g (by omega) (by omega) ⟨by omega,by simp;omega⟩
  rw[show(((vu l k l.length:Nat):Int)).toNat=vu l k l.length by omega]at this
  exact this
 refine tB (fn:=AP.f342) (h2:=h.dG) (e:=[(4,.aD id 0 (vu l k l.length) 1)]) (vs:=[.aD id 0 (vu l k l.length) 1]) rfl rfl rfl ?_ rfl ?_
 · clear yh pos ur
   generalize vu l k l.length=U at *
   simp (disch:=omega)only[go_sem,vo,AP.f342,yE,rH,L,r1,r2,s1]
 · show snap h.dG.get h.next 16 true (.aD id 0 _ 1)=_
   simp [snap,gl]
theorem De {w:AV} {v1 v2 av:AV} {D:List Int} (hD:D.length<1000) (hr:∀d∈D,0≤d∧d<19) (ic:Nat) (hb:H) (rd:Rd hb av (ints D)) (hno:hb.get ic=none):∀(q p C:List Int) (h:H),D=p++q→Ext hb h→h.get ic=some (ints C)→C.length=19→(∀y∈C,0≤y∧y≤(p.length:Int))→h.floor≤ic→
 ∃h',Lp AP.A [0,1,2,6,7,28,29,30] AP.f341L3 [(0,w),(1,v1),(2,v2),(6,av),(7,.aD ic 0 19 1),(28,av),(29,.int .i64 D.length),(30,.int .i64 p.length)] h=some (.exit 0,[(0,w),(1,v1),(2,v2),(6,av),(7,.aD ic 0 19 1),(28,av),(29,.int .i64 D.length),(30,.int .i64 D.length),(31,.bool false)],h')∧h'.get ic=some (ints (wB q C))∧h'.floor=h.floor∧h'.next=h.next∧(∀i,i≠ic→h'.get i=h.get i)
 | [], p, C, h, hp, hx, gc, hC, rC, fc => by
   rw[QY]at hp;subst hp
   refine⟨h,sJ ?_,gc,rfl,rfl,fun _ _=>rfl⟩
   simp (disch:=omega)only[go_sem,vo,AP.f341L3]
 | d :: q, p, C, h, hp, hx, gc, hC, rC, fc => by
   have hl:D.length=p.length+(q.length+1):=by rw[hp];simp
   obtain⟨ad,a1,a2⟩:=rd.wF
   have b1:=a1 p.length ⟨by omega,by omega⟩
   have hd:D[p.length]?=some d:=by rw[hp];simp
   have b2:=a2 h hx p.length d hd
   have dr:=hr d (uz hd)
   have c1:((p.length:Nat):Int)<D.length:=by omega
   obtain⟨k,rfl⟩:=QN dr.1
   have gx:=Af (l:=C) (i:=k) (by omega)
   have xr:0≤C.getD k 0∧C.getD k 0≤(p.length:Int):=by
    rw[QF,QH (by omega)]
    exact rC _ (QW _)
   have es:=xz C k (C.getD k 0+1)
   change _=ints (wq C k)at es
   have lC:(ints C).length=19:=by rw[pf,hC]
   have ib:cG (.int .i64 (k:Nat)) 19=some k:=by simp [cG,nh];omega
   obtain⟨h',L,g1,f1,n1,k1⟩:=De hD hr ic hb rd hno q (p++[(k:Int)]) (wq C k) (h.set ic (ints (wq C k))) (by rw[hp];simp) (hx.Hj hno _) (by rw[vi rfl,gc];rfl) (by rw[wD,hC]) (fun y hy=>by
    have:=xX rC (by omega) y hy
    simp;omega) (by simpa using fc)
   have e1:wB ((k:Int)::q) C=wB q (wq C k):=by rw[wB];rfl
   refine⟨h',sK ?_ L,by rw[e1];exact g1,by rw[f1];simp,by rw[n1];simp,fun i hi=>by rw[k1 i hi,uV hi]⟩
   have n2:(((p++[(k:Int)]).length:Nat):Int)=(p.length:Int)+1:=by simp
   rw[n2]
   clear L rd a1 a2 g1 k1 rC hr hx
   generalize C.getD k 0=z at *
   generalize ints (wq C k)=C2 at *
   generalize ints C=C1 at *
   simp (disch:=omega)only[go_sem,vo,AP.f341L3,c1,b1,b2,ib,gc,lC,gx,es,fc]
theorem Dg {w v1 v2 av cv:AV} {Lc:List Int} (hL:Lc.length=19) (h0:H) (rd:Rd h0 cv (ints Lc)):∀(q p R:List Int) (h:H) (rv:AV),ve=p++q→Ext h0 h→h.floor≤h.next→vG 1 h rv R.length (ints R)→R.length=p.length→(∀j,rv.id?=some j→h0.next≤j)→h0.next≤h.next→
 ∃h' rv',Lp AP.A [0,1,2,6,10,12,46,47,48] AP.f341L2 [(0,w),(1,v1),(2,v2),(6,av),(10,cv),(12,rv),(46,vK ve),(47,.int .i64 19),(48,.int .i64 p.length)] h=some (.exit 2,[(0,w),(1,v1),(2,v2),(6,av),(10,cv),(12,rv'),(46,vK ve),(47,.int .i64 19),(48,.int .i64 19),(49,.bool false)],h')∧vG 1 h' rv' (R++q.map (fun o=>Lc.getD o.toNat 0)).length (ints (R++q.map (fun o=>Lc.getD o.toNat 0)))∧h'.floor=h.floor∧h.next≤h'.next∧(∀i,i<h0.next→h'.get i=h.get i)∧(∀j,rv'.id?=some j→h0.next≤j)
 | [], p, R, h, rv, hp, hx, hfl, o, hR, hid, hn => by
   have:p.length=19:=by
    have:=Rh List.length hp
    rw[QY]at this
    rw[←this];rfl
   rw[this]
   refine⟨h,rv,sJ ?_,by simpa using o,rfl,uv _,fun _ _=>rfl,hid⟩
   have c:¬((19:Nat):Int)<19:=by omega
   simp (disch:=omega)only[go_sem,vo,AP.f341L2,c]
 | d :: q, p, R, h, rv, hp, hx, hfl, o, hR, hid, hn => by
   have hl:19=p.length+(q.length+1):=by
    have:=Rh List.length hp
    simpa [ve]using this
   obtain⟨ad,a1,a2⟩:=(xc h ve).wF
   have ol:ve.length=19:=rfl
   have b1:=a1 p.length ⟨by omega,by omega⟩
   have hd:ve[p.length]?=some d:=by rw[hp];simp
   have b2:=a2 h (Ext.refl h) p.length d hd
   have dm:d∈ve:=uz hd
   have dr:0≤d∧d<19:=by
    have:∀y∈ve,0≤y∧y<19:=by decide
    exact this d dm
   have c1:((p.length:Nat):Int)<19:=by omega
   obtain⟨k,rfl⟩:=QN dr.1
   obtain⟨cd,d1,d2⟩:=rd.wF
   have e1:=d1 k ⟨by omega,by omega⟩
   have lg:Lc[k]?=some (Lc.getD k 0):=by rw[QF,QH (by omega)];rfl
   have e2:=d2 h hx k _ lg
   obtain⟨v',h1,p1,p2,p3,p4,p5,p6⟩:=o.push hfl (z:=8) (m:=1) (by omega) (by omega) [.int .i64 (Lc.getD k 0)] rfl rfl (ze (by omega))
   have hx1:Ext h0 h1:=fun i c hi=>by
    have:=h0.lt _ _ hi
    rw[p5 i (fun e=>by have:=hid i e;omega) (by omega),hx i c hi]
   have o2:vG 1 h1 v' (R++[Lc.getD k 0]).length (ints (R++[Lc.getD k 0])):=by rw[pd,uR];exact p2
   obtain⟨h',rv',L,q1,q2,q3,q4,q5⟩:=Dg hL h0 rd q (p++[(k:Int)]) (R++[Lc.getD k 0]) h1 v' (by rw[hp];simp) hx1 (by omega) o2 (by simp [hR]) (fun j hj=>by rw[p6]at hj;have:=ud hj;omega) (by omega)
   have n2:(((p++[(k:Int)]).length:Nat):Int)=(p.length:Int)+1:=by simp
   rw[n2]at L
   refine⟨h',rv',sK ?_ L, ?_,by omega,by omega,fun i hi=>by rw[q4 i hi,p5 i (fun e=>by have:=hid i e;omega) (by omega)],q5⟩
   · clear L q1 rd a1 a2 d1 d2 o2 hx hx1 q4 p2 o
     generalize Lc.getD k 0=z at *
     simp (disch:=omega)only[go_sem,vo,AP.f341L2,c1,b1,b2,e1,e2,p1]
   · rw[QS]at q1
     exact q1
theorem Df {h0:H} {w:Nat} {av cv:AV} {rid:Nat} {R:List Int} (hR:R.length<1000) (hr:∀y∈R,0≤y∧y<8) (rid0:rid≠w):∀(q p:List Int) (bs:List Nat) (h:H) (ov:AV) (J:List AV),R=p++q→WX h0 h w bs ov→h.get rid=some (ints R++J)→ov.id?≠some rid→bs.length+3* q.length≤60000→
 ∃h' ov',Lp AP.A [0,6,10,77,78,79] AP.f341L1 [(0,.aC w 0),(6,av),(10,cv),(77,.aD rid 0 R.length 1),(78,.int .i64 R.length),(79,.int .i64 p.length)] h=some (.exit 4,[(0,.aC w 0),(6,av),(10,cv),(77,.aD rid 0 R.length 1),(78,.int .i64 R.length),(79,.int .i64 R.length),(80,.bool false)],h')∧WX h0 h' w (bs++yB q) ov'
 | [], p, bs, h, ov, J, hp, x, gr, hor, hb => by
   rw[QY]at hp;subst hp
   refine⟨h,ov,sJ ?_,by simpa [yB]using x⟩
   simp (disch:=omega)only[go_sem,vo,AP.f341L1]
 | y :: q, p, bs, h, ov, J, hp, x, gr, hor, hb => by
   have hl:R.length=p.length+(q.length+1):=by rw[hp];simp
   have hy:R[p.length]?=some y:=by rw[hp];simp
   have yr:=hr y (uz hy)
   obtain⟨k,rfl⟩:=QN yr.1
   have c1:((p.length:Nat):Int)<R.length:=by omega
   have gy:(ints R++J)[p.length]?=some (.int .i64 k):=by
    rw[QQ (by rw[pf];omega)]
    exact sf hy
   have ib:cG (.int .i64 (p.length:Nat)) R.length=some p.length:=by simp [cG,nh];omega
   simp only[QG]at hb
   obtain⟨h1,o1,k1,w1,f1⟩:=xb x.wr k 3 (by omega) (by omega) (by omega)
   have lr:=h.lt _ _ gr
   obtain⟨h',ov',L,x2⟩:=Df hR hr rid0 q (p++[(k:Int)]) (bs++vj k 3) h1 o1 J (by rw[hp];simp) (x.step w1 f1) (by rw[f1.vE rid lr rid0 hor,gr]) (fun e=>by
    rcases f1.ids rid e with z|z
    · exact hor z
    · omega) (by simp [vj,vt];omega)
   have n2:(((p++[(k:Int)]).length:Nat):Int)=(p.length:Int)+1:=by simp
   rw[n2]at L
   have k1':aQ AP.A 335 [.aC w 0,.int .i64 k,.int .i64 3] h=some (.int .i64 0,h1):=k1
   refine⟨h',ov',sK ?_ L, ?_⟩
   · clear L x x2 w1 f1 k1 hr
     generalize ints R++J=P at *
     simp (disch:=omega)only[go_sem,vo,AP.f341L1,c1,ib,gr,gy,k1']
   · have:yB ((k:Int)::q)=vj k 3++yB q:=by simp [yB]
     rw[this,←QS];exact x2
theorem B7 {h0 : H} {w : Nat} {cv : AV} {D : List Int} {E : List (Int × Int)} (hD : D.length < 1000) (ok : ∀ y ∈ D, 0 ≤ y ∧ zU E y.toNat) (av : AV) (rd : Rd h0 av (ints D)) (rl : xH 2 h0 cv E.length (E.flatMap v9)) : ∀ (q p : List Int) (bs : List Nat) (h : H) (ov : AV), D = p ++ q → WX h0 h w bs ov → bs.length + 15 * q.length ≤ 60000 →
 ∃h' ov',Lp AP.A [0,17,92,93,94] AP.f341L0 [(0,.aC w 0),(17,cv),(92,av),(93,.int .i64 D.length),(94,.int .i64 p.length)] h=some (.exit 6,[(0,.aC w 0),(17,cv),(92,av),(93,.int .i64 D.length),(94,.int .i64 D.length),(95,.bool false)],h')∧WX h0 h' w (bs++xP E q) ov'∧(h.next≤h'.next)
 | [], p, bs, h, ov, hp, x, hb => by
   rw[QY]at hp;subst hp
   refine⟨h,ov,sJ ?_,by simpa [xP]using x,uv _⟩
   simp (disch:=omega)only[go_sem,vo,AP.f341L0]
 | y :: q, p, bs, h, ov, hp, x, hb => by
   have hl:D.length=p.length+(q.length+1):=by rw[hp];simp
   have hy:D[p.length]?=some y:=by rw[hp];simp
   obtain⟨y0,oy⟩:=ok y (uz hy)
   obtain⟨k,rfl⟩:=QN y0
   have tk:((k:Nat):Int).toNat=k:=by omega
   rw[tk]at oy
   have c1:((p.length:Nat):Int)<D.length:=by omega
   obtain⟨ad,a1,a2⟩:=rd.wF
   have b1:=a1 p.length ⟨by omega,by omega⟩
   have b2:=a2 h x.ext p.length _ hy
   obtain⟨le,l1,l2⟩:=rl.KH
   obtain⟨n,c,q0,q1,q2,q3,q4⟩:=oy.bits
   have e1:=l1 k ⟨by omega,by have:=oy.lt;omega⟩
   have e2:=l2 h x.ext _ _ q0
   simp only[QG]at hb
   obtain⟨h1,o1,k1,w1,f1⟩:=Hb x.wr c n q1 q2 q3 (by omega)
   obtain⟨h',ov',L,x2,nn⟩:=B7 hD ok av rd rl q (p++[(k:Int)]) (bs++xw c n) h1 o1 (by rw[hp];simp) (x.step w1 f1) (by simp [vP];omega)
   have n2:(((p++[(k:Int)]).length:Nat):Int)=(p.length:Int)+1:=by simp
   rw[n2]at L
   have fn:=f1.next
   refine⟨h',ov',sK ?_ L, ?_,by omega⟩
   · clear L x x2 w1 f1 ok rd rl a1 a2 l1 l2
     simp (disch:=omega)only[go_sem,vo,AP.f341L0,c1,b1,b2,e1,e2,k1]
   · have:xP E ((k:Int)::q)=xw c n++xP E q:=by
      rw[←q4];simp [xP]
     rw[this,←QS];exact x2
theorem Jh {h0 h:H} {w:Nat} {bs:List Nat} {ov:AV} (x:WX h0 h w bs ov) {v1 v2:AV} {la lb Lc:List Int} {KC:Nat} (r1:Rd h0 v1 (ints la)) (r2:Rd h0 v2 (ints lb)) (sc1:v1.sc=true) (sc2:v2.sc=true) (ce1:v1.cells=[v1]) (ce2:v2.cells=[v2]) (hbs:bs.length≤100) (hla:257≤la.length∧la.length≤286) (hlb:1≤lb.length∧lb.length≤30) (hall:∀y∈la++lb,0≤y∧y<19) (rc:wo 7 KC (v8 (wB (la++lb) (List.replicate 19 0)))) (ec:Lc=vL (wB (la++lb) (List.replicate 19 0)) KC) (row:∀y∈Lc,0≤y∧y<8) (cc:vh Lc=0∨vh Lc=302) (xZ:∀y∈la++lb,zU (uU Lc) y.toNat):
 ∃h' ov',aQ AP.A 341 [.aC w 0,v1,v2] h=some (.bJ [],h')∧WX h0 h' w (bs++(vj (la.length-257) 5++(vj (lb.length-1) 5++(vj (vu (ve.map (fun o=>Lc.getD o.toNat 0)) 4 19-4) 4++(yB ((ve.map (fun o=>Lc.getD o.toNat 0)).take (vu (ve.map (fun o=>Lc.getD o.toNat 0)) 4 19))++xP (uU Lc) (la++lb)))))) ov':=by
 obtain⟨D,eD⟩:∃D,D=la++lb:=⟨_,rfl⟩
 have lD:D.length=la.length+lb.length:=by rw[eD];simp
 have l1:iG false v1=some (.int .i64 la.length):=by
  have:=r1.len;rw[pf]at this;exact this
 have l2:iG false v2=some (.int .i64 lb.length):=by
  have:=r2.len;rw[pf]at this;exact this
 have lw:=h.lt _ _ x.wr.get
 have wfl:=x.wr.fl
 have wflx:=x.wr.Ih
 obtain⟨h1,eh1⟩:∃g,g=h.alloc [v1,v2]:=⟨_,rfl⟩
 have n1:h1.next=h.next+1:=by rw[eh1];simp
 have f1:h1.floor=h.floor:=by rw[eh1];simp
 have k1e:∀i,i<h.next→h1.get i=h.get i:=fun i hi=>by rw[eh1,u5 (by omega)]
 have k62:aQ AP.A 62 [.aD h.next 0 2 1] h1=some (vK D,h1):=by
  have e1:h1.get h.next=some [v1,v2]:=by rw[eh1,u9 rfl]
  have rr:Rd h1 (.aD h.next 0 2 1) ([(v1,la),(v2,lb)].map (·.1)):=⟨by simp [aR,e1],by intro s e;cases e⟩
  have e:cat [(v1,la),(v2,lb)]=D:=by rw[eD];simp [cat]
  have up:∀i c,h0.get i=some c→h1.get i=some c:=fun i c hi=>by
   have e:=x.ext i c hi
   rw[k1e i (h.lt _ _ e),e]
  have:=BT h1 (.aD h.next 0 2 1) [(v1,la),(v2,lb)] rr (fun p hp=>by
   simp at hp
   rcases hp with rfl|rfl
   · exact r1.mono up
   · exact r2.mono up) (by rw[e];omega) (by simp) (by rw[e];omega)
  rw[e]at this;exact this
 have lnD:iG false (vK D)=some (.int .i64 D.length):=rfl
 have ko:=fun g=>G8 g
 have lnO:iG false (vK ve)=some (.int .i64 19):=rfl
 obtain⟨h2,eh2⟩:∃g,g=h1.alloc (yA 19 [.int .i64 0]):=⟨_,rfl⟩
 have n2:h2.next=h.next+2:=by rw[eh2];simp;omega
 have g2:h2.get h1.next=some (ints (List.replicate 19 0)):=by rw[eh2,u9 rfl,yy]
 rw[←eD]at hall rc ec xZ ⊢
 obtain⟨h3,L3,g3,f3,n3,k3⟩:=De (w:=.aC w 0) (v1:=v1) (v2:=v2) (av:=vK D) (by omega) hall h1.next H.empty (xc _ _) (by simp [H.empty,H.get]) D [] (List.replicate 19 0) h2 rfl (fun i c q=>by simp [H.empty,H.get]at q) g2 (by simp) (fun y hy=>by have:=Q5 hy;simp;omega) (by rw[eh2];simp;omega)
 have L3':Lp AP.A [0,1,2,6,7,28,29,30] AP.f341L3 [(0,.aC w 0),(1,v1),(2,v2),(6,vK D),(7,.aD h1.next 0 19 1),(28,vK D),(29,.int .i64 D.length),(30,.int .i64 0)] h2=_:=L3
 have c1:(wB D (List.replicate 19 0)).length=19:=by rw[z4,QV]
 have c2:∀y∈wB D (List.replicate 19 0),0≤y∧y≤2147483647:=fun y hy=>by
  have:=z5 D _ 0 (by omega) (yx 19) y hy
  omega
 have k7:=Ef h3 (.aD h1.next 0 19 1) (wB D (List.replicate 19 0)) 7 KC (by omega) (by omega) (Em g3 c1) (by omega) c2 (by have:=CQ (wB D (List.replicate 19 0));omega) rc
 rw[←ec,c1]at k7
 have lLc:Lc.length=19:=by rw[ec,wQ,c1]
 have f3':h3.floor=h.floor:=by rw[f3,eh2];simp;exact f1
 obtain⟨h4,rv,L2,o4,f4,n4,k4,id4⟩:=Dg (w:=.aC w 0) (v1:=v1) (v2:=v2) (av:=vK D) lLc h3 (cv:=yD 1 19 (ints Lc)) (by have:=zN h3 Lc;rwa [lLc]at this) ve [] [] h3 .aO rfl (Ext.refl _) (by omega) vG.nil rfl (fun j hj=>by cases hj) (uv _)
 have L2':Lp AP.A [0,1,2,6,10,12,46,47,48] AP.f341L2 [(0,.aC w 0),(1,v1),(2,v2),(6,vK D),(10,yD 1 19 (ints Lc)),(12,.aO),(46,vK ve),(47,.int .i64 19),(48,.int .i64 0)] h3=_:=L2
 obtain⟨R,eR⟩:∃R,R=ve.map (fun o=>Lc.getD o.toNat 0):=⟨_,rfl⟩
 rw[List.nil_append,←eR]at o4
 rw[←eR]
 have lR:R.length=19:=by rw[eR];rfl
 obtain⟨rid,erv,gr,_⟩:=Ik o4 (by omega)
 have rid3:h3.next≤rid:=id4 rid (by rw[erv];rfl)
 have pR:∀y∈R,0≤y∧y<8:=fun y hy=>by
  rw[eR]at hy
  obtain⟨o,ho,rfl⟩:=QP.1 hy
  rw[QF]
  cases e:Lc[o.toNat]? with
  |none=>simp
  |some z=>exact row z (uz e)
 have kt:=Ia h4 rid R gr (by omega) (fun y hy=>(pR y hy).1) 4 (by omega)
 rw[lR]at kt
 have ur:=v5 R 4 19
 obtain⟨U,eU⟩:∃U,U=vu R 4 19:=⟨_,rfl⟩
 rw[←eU]at kt ur ⊢
 have k4e:∀i,i<h.next→h4.get i=h.get i:=fun i hi=>by rw[k4 i (by omega),k3 i (by omega),eh2,u5 (by omega),k1e i hi]
 have x4:WX h0 h4 w bs ov:=x.turn (by omega) (by omega) k4e
 have hon:ov.id?≠some rid:=fun q=>by have:=(x.wr.own.lt q).2;omega
 obtain⟨h5,o5,k5,w5,r5⟩:=xb x4.wr (la.length-257) 5 (by omega) (by omega) (by omega)
 have x5:=x4.step w5 r5
 have lr4:=h4.lt _ _ gr
 have g5:h5.get rid=some (ints R):=by rw[r5.vE rid lr4 (by omega) hon,gr]
 have hon5:o5.id?≠some rid:=fun e=>by
  rcases r5.ids rid e with z|z
  · exact hon z
  · omega
 obtain⟨h6,o6,k6,w6,r6⟩:=xb x5.wr (lb.length-1) 5 (by omega) (by omega) (by simp [vj,vt];omega)
 have x6:=x5.step w6 r6
 have lr5:=h5.lt _ _ g5
 have g6:h6.get rid=some (ints R):=by rw[r6.vE rid lr5 (by omega) hon5,g5]
 have hon6:o6.id?≠some rid:=fun e=>by
  rcases r6.ids rid e with z|z
  · exact hon5 z
  · omega
 obtain⟨h7,o7,k7p,w7,r7⟩:=xb x6.wr (U-4) 4 (by omega) (by omega) (by simp [vj,vt];omega)
 have x7:=x6.step w7 r7
 have lr6:=h6.lt _ _ g6
 have g7:h7.get rid=some (ints R):=by rw[r7.vE rid lr6 (by omega) hon6,g6]
 have hon7:o7.id?≠some rid:=fun e=>by
  rcases r7.ids rid e with z|z
  · exact hon6 z
  · omega
 have lT:(R.take U).length=U:=by rw[Q6];omega
 have eT:ints R=ints (R.take U)++ints (R.drop U):=by rw[←pd,List.take_append_drop]
 rw[eT]at g7
 obtain⟨h8,o8,L1,x8⟩:=Df (av:=vK D) (cv:=yD 1 19 (ints Lc)) (R:=R.take U) (by omega) (fun y hy=>pR y (List.mem_of_mem_take hy)) (by omega) (R.take U) [] _ h7 o7 (ints (R.drop U)) rfl x7 g7 hon7 (by simp [vj,vt];omega)
 rw[lT]at L1
 have L1':Lp AP.A [0,6,10,77,78,79] AP.f341L1 [(0,.aC w 0),(6,vK D),(10,yD 1 19 (ints Lc)),(77,.aD rid 0 U 1),(78,.int .i64 U),(79,.int .i64 0)] h7=_:=L1
 have kc:=yQ h8 (yD 1 19 (ints Lc)) Lc (by omega) (by omega) (by have:=zN h8 Lc;rwa [lLc]at this) cc
 obtain⟨h9,o9,L0,x9,_⟩:=B7 (by omega) (fun y hy=>⟨(hall y hy).1,xZ y hy⟩) (vK D) (xc h0 D) (yS h0 Lc) D [] _ h8 o8 rfl x8 (by simp [vj,vt,yT];omega)
 have L0':Lp AP.A [0,17,92,93,94] AP.f341L0 [(0,.aC w 0),(17,yH Lc),(92,vK D),(93,.int .i64 D.length),(94,.int .i64 0)] h8=_:=L0
 refine⟨h9,o9,vJ (fn:=AP.f341) (e:=[]) (vs:=[]) rfl rfl rfl ?_ rfl,by simpa only[QS]using x9⟩
 have z1:((la.length-257:Nat):Int)=(la.length:Int)-257:=by omega
 have z2:((lb.length-1:Nat):Int)=(lb.length:Int)-1:=by omega
 have z3:((U-4:Nat):Int)=(U:Int)-4:=by omega
 rw[z1]at k5
 rw[z2]at k6
 rw[z3]at k7p
 have k5':aQ AP.A 335 [.aC w 0,.int .i64 ((la.length:Int)-257),.int .i64 5] h4=some (.int .i64 0,h5):=k5
 have k6':aQ AP.A 335 [.aC w 0,.int .i64 ((lb.length:Int)-1),.int .i64 5] h5=some (.int .i64 0,h6):=k6
 have k7':aQ AP.A 335 [.aC w 0,.int .i64 ((U:Int)-4),.int .i64 4] h6=some (.int .i64 0,h7):=k7p
 have k351:aQ AP.A 351 [.aD h1.next 0 19 1,.int .i64 7] h3=some (.bJ [yD 1 19 (ints Lc),.int .i64 0],h3):=k7
 have kt':aQ AP.A 342 [.aD rid 0 19 1,.int .i64 4] h4=some (.aD rid 0 U 1,h4):=kt
 have ia:(la.length:Int)≤286:=by omega
 have ib:(lb.length:Int)≤30:=by omega
 have iU:(U:Int)≤19:=by omega
 have e19:∀V,iG false (AV.aD V 0 19 1)=some (.int .i64 19):=fun _=>rfl
 rw[erv]at L2'
 rw[lR]at L2'
 clear x x4 x5 x6 x7 x8 x9 w5 w6 w7 r5 r6 r7 r1 r2 hall rc row cc xZ k5 k6 k7p k7 kt L0 L1 L2 L3 o4 pR k4 k3 k4e k1e g5 g6 g7 gr eT c2 ec
 generalize vK D=ID at *
 generalize yD 1 19 (ints Lc)=CV at *
 generalize yH Lc=EV at *
 generalize vK ve=IO at *
 generalize (la.length:Int)=LA at *
 generalize (lb.length:Int)=LB at *
 generalize (D.length:Int)=LD at *
 simp (disch:=omega)only[go_sem,vo,AP.f341,sc1,sc2,ce1,ce2,←eh1,k62,ko,lnO,←eh2,lnD,rH,L3',k351,L2',kt',l1,l2,k5',k6',k7',yE,L1',kc,L0']
theorem Ix (p q:List Int) (n:Nat) (h:∀y∈q,y=0):wh (p++q) n=wh p n:=by
 unfold wh
 by_cases c:n=0
 · rw[if_pos c,if_pos c]
 · rw[if_neg c,if_neg c,List.countP_append]
   have:q.countP (fun x=>x==(n:Int))=0:=by
    rw[List.countP_eq_zero]
    intro y hy
    rw[h y hy]
    simp;omega
   omega
theorem Bb (p q:List Int) (h:∀y∈q,y=0):∀n,u4 (p++q) n=u4 p n
 |0=>rfl
 |n+1=>by rw[u4,u4,Bb p q h n,Ix p q n h]
theorem IA {l:List Int} (hr:∀y∈l,0≤y) (k:Nat) (hk:k≤l.length):∀y∈l.drop (vu l k l.length),y=0:=by
 intro y hy
 obtain⟨i,hi,e⟩:=Rb.1 hy
 rw[List.getElem_drop]at e
 rw[List.length_drop]at hi
 have z:=xF l k l.length (vu l k l.length+i) (by omega) (by omega)
 have e2:l.getD (vu l k l.length+i) 0=y:=by
  rw[QF,QH (by omega),e];rfl
 rw[e2]at z
 have:=hr y (List.mem_of_mem_drop hy)
 omega
def Es (E E':List (Int×Int)):Prop:=∀s,s<E.length→E'[s]?=E[s]?
theorem C7 {l:List Int} (hr:∀y∈l,0≤y) (k:Nat) (hk:k≤l.length):Es (uU (xg l k)) (uU l):=by
 intro s hs
 have hd:=IA hr k hk
 have cl:=Aa l hk
 have ur:=v5 l k l.length
 rw[yl]at hs
 have hs2:s<l.length:=by omega
 have el:l=xg l k++l.drop (vu l k l.length):=(List.take_append_drop _ _).symm
 unfold uU
 rw[uG,uG,Q8 hs,Q8 hs2]
 show some (xU l s)=some (xU (xg l k) s)
 have g:l.getD s 0=(xg l k).getD s 0:=by
  conv=>lhs;rw[el]
  rw[QF,QQ hs,←QF]
 have f:∀n,u4 l n=u4 (xg l k) n:=fun n=>by
  conv=>lhs;rw[el]
  exact Bb _ _ hd n
 have t:l.take s=(xg l k).take s:=by
  conv=>lhs;rw[el]
  rw[List.take_append_of_le_length (by omega)]
 unfold xU
 rw[g,f,t]
theorem zU.pre {E E':List (Int×Int)} (p:Es E E') {s:Nat} (o:zU E s):zU E' s∧u1 E' s=u1 E s:=by
 have hl:=o.lt
 have e:=p s hl
 obtain⟨n,v,h,r⟩:=o
 refine⟨⟨n,v,e.trans h,r⟩, ?_⟩
 unfold u1
 rw[QF,QF,e]
theorem G7.pre {E E' D D':List (Int×Int)} (p:Es E E') (q:Es D D') {t:Tok} (o:G7 E D t):G7 E' D' t∧vz E' D' t=vz E D t:=by
 rcases o with ⟨c0,h2,h3⟩|⟨h1,h2,h3,h4,h5,h6⟩
 · obtain⟨a,b⟩:=h3.pre p
   refine⟨.inl ⟨c0,h2,a⟩, ?_⟩
   rw[vz,vz,if_pos c0,if_pos c0,b]
 · obtain⟨a,b⟩:=h5.pre p
   obtain⟨c,d⟩:=h6.pre q
   have z:¬t.len=0:=by omega
   refine⟨.inr ⟨h1,h2,h3,h4,a,c⟩, ?_⟩
   rw[vz,vz,if_neg z,if_neg z,b,d]
theorem DL {E E' D D':List (Int×Int)} (p:Es E E') (q:Es D D'):∀ts:List Tok,(∀t∈ts,G7 E D t)→vO E' D' ts=vO E D ts
 |[],_=>rfl
 | t :: r, h => by
   have a:=((h t (by simp)).pre p q).2
   have b:=DL p q r fun x hx=>h x (by simp [hx])
   simp only[vO,QM]at b ⊢
   rw[a,b]
theorem IF {ts:List Tok} (zC:ym ts=true):∃KA KB KC la lb Lc,zV ts KA KB KC la lb Lc:=by
 obtain⟨_,hn,t2,_,_⟩:=BX zC
 exact GQ hn zC t2
theorem Gp (h : H) (v : AV) (ts : List Tok) (KA KB KC : Nat) (la lb Lc : List Int) (ok : zV ts KA KB KC la lb Lc) (rd : xH 3 h v ts.length (vB ts)) :
 aQ AP.A 327 [v] h=some (.bJ [.str (bytesOf (vm (vp ts la lb Lc))),.int .i64 0],h):=by
 obtain⟨zC,hn,tok,ra,rb,ea,eb,hall,rc,ec,hrow,ca,cb,cc,xZ,Kf,Be⟩:=ok
 obtain⟨_,_,_,lit,_⟩:=BX zC
 have rd0:xH 3 h.dG v ts.length (vB ts):=rd.mono fun i c q=>q
 have k1:=Gs h.dG v ts (by omega) rd0
 rw[zC]at k1
 have k2:=Gq h.dG v ts KA KB hn tok lit ra rb rd0
 obtain⟨a1,a2,a3⟩:=EO ts hn
 obtain⟨b1,b2⟩:=EP ts hn
 obtain⟨A,eA⟩:∃A,A=vL (dA ts) KA:=⟨_,rfl⟩
 obtain⟨B,eB⟩:∃B,B=vL (dB ts) KB:=⟨_,rfl⟩
 have lA:A.length=286:=by rw[eA,wQ,a1]
 have lB:B.length=30:=by rw[eB,wQ,b1]
 obtain⟨fA1,fA2,fA3,fA4,fA5⟩:=xm a2 (by omega) (by omega) (by omega) ra
 obtain⟨fB1,fB2,fB3,fB4,fB5⟩:=xm b2 (by omega) (by omega) (by omega) rb
 rw[←eA]at k2 ea fA2
 rw[←eB]at k2 eb fB2
 have rgA:∀y∈A,0≤y∧y<16:=fun y hy=>by have:=fA2 y hy;omega
 have rgB:∀y∈B,0≤y∧y<16:=fun y hy=>by have:=fB2 y hy;omega
 have pA:∀y∈A,0≤y:=fun y hy=>(rgA y hy).1
 have pB:∀y∈B,0≤y:=fun y hy=>(rgB y hy).1
 have uA:=v5 A 257 A.length
 have uB:=v5 B 1 B.length
 have lla:la.length=vu A 257 A.length:=by rw[ea];exact Aa A (by omega)
 have llb:lb.length=vu B 1 B.length:=by rw[eb];exact Aa B (by omega)
 have cfA:vh A=0∨vh A=302:=by
  have e:=Bx pA 257 15
  rw[←ea]at e
  have hl:0≤vg A 15:=by
   rw[←e]
   unfold vh at ca
   by_cases q:zH la=false
   · rw[if_pos q]at ca;omega
   · rw[if_neg q]at ca
     by_cases z:vg la 15<0
     · rw[if_pos z]at ca;omega
     · omega
  rw[wU (by omega) (by omega) rgA hl]
  split
  · exact .inl rfl
  · exact .inr rfl
 have cfB:vh B=0∨vh B=302:=by
  have e:=Bx pB 1 15
  rw[←eb]at e
  have hl:0≤vg B 15:=by
   rw[←e]
   unfold vh at cb
   by_cases q:zH lb=false
   · rw[if_pos q]at cb;omega
   · rw[if_neg q]at cb
     by_cases z:vg lb 15<0
     · rw[if_pos z]at cb;omega
     · omega
  rw[wU (by omega) (by omega) rgB hl]
  split
  · exact .inl rfl
  · exact .inr rfl
 have prA:Es (uU la) (uU A):=by rw[ea];exact C7 pA 257 (by omega)
 have prB:Es (uU lb) (uU B):=by rw[eb];exact C7 pB 1 (by omega)
 obtain⟨h1,o1,k3,x1,f1⟩:=GH (h:=h.dG) rfl 2 (by omega)
 have hN:h.dG.next=h.next:=rfl
 have kt1:=DD h1 A (by omega) (by omega) pA 257 (by omega)
 have kt2:=DD h1 B (by omega) (by omega) pB 1 (by omega)
 rw[←lla]at kt1
 rw[←llb]at kt2
 have r1:Rd h.dG (.aU false (ints A) 0 la.length 1) (ints la):=by
  have:=Hg h.dG A (k:=la.length) (by omega)
  rw[show A.take la.length=la by rw[ea];unfold xg;rw[Q6];congr 1;omega]at this
  exact this
 have r2:Rd h.dG (.aU false (ints B) 0 lb.length 1) (ints lb):=by
  have:=Hg h.dG B (k:=lb.length) (by omega)
  rw[show B.take lb.length=lb by rw[eb];unfold xg;rw[Q6];congr 1;omega]at this
  exact this
 obtain⟨h2,o2,k4,x2⟩:=Jh x1 r1 r2 rfl rfl rfl rfl (by simp [vj,vt]) ⟨by omega,by omega⟩ ⟨by omega,by omega⟩ hall rc ec hrow cc xZ
 have kcA:=yQ h2 (yD 1 A.length (ints A)) A (by omega) (by omega) (zN h2 A) cfA
 have kcB:=yQ h2 (yD 1 B.length (ints B)) B (by omega) (by omega) (zN h2 B) cfB
 obtain⟨R,eR⟩:∃R,R=ve.map (fun o=>Lc.getD o.toNat 0):=⟨_,rfl⟩
 have urR:=v5 R 4 19
 have abl:=BE xZ
 rw[←eR]at x2
 obtain⟨h3,k5⟩:=He (v:=v) (by omega) h.dG rd0 (yS h.dG A) (yS h.dG B) (fun t ht=>⟨((Kf t ht).pre prA prB).1,tok t ht,lit t ht⟩) (Be.pre prA).1 h.dG.next _ h2 o2 x2 (by
  have:=yT (R.take (vu R 4 19))
  have:=List.length_take_le (vu R 4 19) R
  have lR:R.length=19:=by rw[eR];rfl
  rw[uR]at abl
  simp only[uR,vj,vt]
  omega)
 have e:vj 1 1++vj 2 2++(vj (la.length-257) 5++(vj (lb.length-1) 5++(vj (vu R 4 19-4) 4++(yB (R.take (vu R 4 19))++xP (uU Lc) (la++lb)))))++(vO (uU A) (uU B) ts++u1 (uU A) 256)=vp ts la lb Lc:=by
  rw[DL prA prB ts Kf,(Be.pre prA).2]
  have:vj 1 1++vj 2 2=vj 5 3:=by decide
  rw[this]
  unfold vp
  rw[←eR]
  simp only[QS]
 rw[e]at k5
 rw[hN]at k3 k4 k5
 have k3':aQ AP.A 333 [.int .i64 2] h.dG=some (.aC h.next 0,h1):=k3
 rw[lA]at kt1 kcA
 rw[lB]at kt2 kcB
 have kt1':aQ AP.A 342 [yD 1 286 (ints A),.int .i64 257] h1=_:=kt1
 have kt2':aQ AP.A 342 [yD 1 30 (ints B),.int .i64 1] h1=_:=kt2
 refine tB (fn:=AP.f327) (h2:=h3) (e:=[(2,.str (bytesOf (vm (vp ts la lb Lc)))),(3,.int .i64 0)]) (vs:=[.str (bytesOf (vm (vp ts la lb Lc))),.int .i64 0]) rfl rfl rfl ?_ rfl rfl
 clear x1 x2 r1 r2 rd rd0 e k3 kt1 kt2 xZ hall rc hrow ra rb prA prB abl Kf tok lit ec ea eb
 generalize bytesOf (vm (vp ts la lb Lc))=SB at *
 generalize AV.aU false (ints A) 0 la.length 1=TA at *
 generalize AV.aU false (ints B) 0 lb.length 1=TB at *
 generalize yD 1 286 (ints A)=VA at *
 generalize yD 1 30 (ints B)=VB at *
 generalize yH A=CA at *
 generalize yH B=CB at *
 simp (disch:=omega)only[go_sem,vo,AP.f327,k1,k2,k3',kt1',kt2',k4,kcA,kcB,k5]
theorem FD (h:H) (ts:List Tok):xH 3 h (CO ts) ts.length (vB ts):=Gu (by rw[zh])
theorem Jg (h:H) (v:AV) (ts:List Tok) (hn:ts.length<1125899906842624) (zC:ym ts=false) (rd:xH 3 h v ts.length (vB ts)):aQ AP.A 327 [v] h=some (.bJ [.str ⟨#[]⟩,.int .i64 800],h):=by
 have k1:=Gs h.dG v ts hn (rd.mono fun i c q=>q)
 rw[zC]at k1
 refine tB (fn:=AP.f327) (h2:=h.dG) (e:=[(2,.str ⟨#[]⟩),(3,.int .i64 800)]) (vs:=[.str ⟨#[]⟩,.int .i64 800]) rfl rfl rfl ?_ rfl rfl
 clear rd
 simp (disch:=omega)only[go_sem,vo,AP.f327,k1]
theorem D3 {ts:List Tok} (zC:ym ts=true) {KA KB KC:Nat} {la lb Lc:List Int} (ok:zV ts KA KB KC la lb Lc) {most:Int} (hm1:(300:Int)≤most) (hm2:most≤8192):wW (bytesOf (vm (vp ts la lb Lc))) most=.ok (wg ts [],(bytesOf (vm (vp ts la lb Lc))).size):=by
 obtain⟨t3,t1,t2,_,t5⟩:=BX zC
 have hb:=C5 (vp ts la lb Lc) (GP _ _ _ _)
 obtain⟨d,v1,v2,sz⟩:=GO ok hb t3 (most:=most) (by omega)
 have psz:(bytesOf (vm (vp ts la lb Lc))).size=((vp ts la lb Lc).length+7)/8:=by rw[vH,wS]
 generalize bytesOf (vm (vp ts la lb Lc))=T at *
 unfold wW
 rw[if_neg (by omega)]
 have bl:xQ T most 0 []=.ok (true,(vp ts la lb Lc).length,wg ts []):=by
  unfold xQ
  simp only[uC]
  rw[if_pos sz,v2]
  simp only[Nat.reduceEqDiff,uS,if_true,reduceIte]
  rw[d]
  simp [v1]
 rw[yu,bl]
 simp only[if_true,psz]
def wN (l:List Nat):List Tok:=l.map fun b=>⟨(b:Nat),0,0⟩
theorem HV (l:List Nat):(wN l).length=l.length:=by simp [wN]
theorem Cm:∀(l o:List Nat),wg (wN l) o=o++l
 |[],o=>by simp [wN,wg]
 | b :: l, o => by
   have ih:=Cm l (o++[b])
   show wg (wN l) (vx o ⟨(b:Nat),0,0⟩)=_
   have e:vx o ⟨(b:Nat),0,0⟩=o++[b]:=by unfold vx;rw[if_pos rfl];simp
   rw[e,ih];simp
theorem Ff:∀(l:List Nat) (s:Int),(∀b∈l,b<256)→s+l.length≤8192→vk s (wN l)=true
 |[],s,_,_=>rfl
 | b :: l, s, hb, hl => by
   have b1:=hb b (by simp)
   have hl':s+((l.length:Int)+1)≤8192:=by simpa using hl
   have e:vF s ⟨(b:Nat),0,0⟩=some (s+1):=by
    unfold vF
    rw[if_pos rfl,if_neg]
    show¬(((b:Nat):Int)<0∨255<((b:Nat):Int)∨(0:Int)≠0)
    omega
   show(match vF s ⟨(b:Nat),0,0⟩with
    |none=>false
    |some s'=>if 8192<s' then false else vk s' (wN l))=true
   rw[e]
   show(if 8192<s+1 then false else vk (s+1) (wN l))=true
   rw[if_neg (by omega)]
   exact Ff l (s+1) (fun x hx=>hb x (by simp [hx])) (by omega)
theorem I5 {l:List Nat} (hb:∀b∈l,b<256) (hl:l.length≤300):ym (wN l)=true:=by
 unfold ym xh
 rw[if_pos (Ff l 0 hb (by omega)),Cm]
 simp [vH];omega
def AA:ByteArray:=⟨#[97,97]⟩
def HI:ByteArray:=⟨#[104,105]⟩
def ND:List Tok:=[⟨0,3,1⟩]
theorem OZ:yz HI=⟨#[1,2,0,253,255,104,105]⟩:=by
 have:(yz HI).data.toList=[1,2,0,253,255,104,105]:=by decide+kernel
 apply ByteArray.ext
 apply Array.ext'
 exact this
theorem KZ:M5 AA=⟨#[75,76,4,0]⟩:=by
 have:(M5 AA).data.toList=[75,76,4,0]:=by decide+kernel
 apply ByteArray.ext
 apply Array.ext'
 exact this
theorem Nt:ym ND=false:=by decide+kernel
theorem Is (h:H) (hf:h.floor≤h.next):aQ AP.A 324 [] h=some (.bool true,h):=by
 obtain⟨KA,KB,KC,la,lb,Lc,ok⟩:=Ma AA (by decide)
 have zC:=B3 AA (by decide)
 have tl:=(GB AA (by decide)).1
 have k1:=H6 h.dG HI
 rw[if_neg (by decide),OZ]at k1
 have k2:=H9 h.dG AA
 rw[if_neg (by decide)]at k2
 have k3:=Fz h.dG (CO (tokens AA)) (tokens AA) (by omega) (FD _ _)
 rw[if_pos zC]at k3
 change aQ AP.A 326 [CO (tokens AA)] h.dG=some (.bJ [.str (M5 AA),.int .i64 0],h.dG)at k3
 rw[KZ]at k3
 have k4:=Gp h.dG (CO (tokens AA)) (tokens AA) KA KB KC la lb Lc ok (FD _ _)
 change aQ AP.A 327 [CO (tokens AA)] h.dG=some (.bJ [.str (BW AA la lb Lc),.int .i64 0],h.dG)at k4
 have i1:wW (BW AA la lb Lc) 9=.ok (preB AA AA.size,(BW AA la lb Lc).size):=E8 (s:=AA) (by decide) ok (by decide) (by omega)
 have sz:(BW AA la lb Lc).size<1125899906842624:=by
  have:=(GR ok).2
  unfold BW;rw[zY];omega
 have k5:=Dh h.dG (by simp) (BW AA la lb Lc) 9 sz
 rw[i1]at k5
 have k5':aQ AP.A 7 [.str (BW AA la lb Lc),.int .i64 9] h.dG=some (.bJ [.str AA,.int .i64 (BW AA la lb Lc).size,.int .i64 0],h.dG):=by
  have this:aQ AP.A 7 [.str (BW AA la lb Lc),.int .i64 9] h.dG=some (.bJ [.str (bytesOf (preB AA AA.size)),.int .i64 (BW AA la lb Lc).size,.int .i64 0],h.dG):=k5
  rw[show bytesOf (preB AA AA.size)=AA from Cu AA]at this
  exact this
 obtain⟨g,eg⟩:∃g,g=h.dG.alloc (vB ND):=⟨_,rfl⟩
 have hN:h.dG.next=h.next:=rfl
 have gg:g.get h.next=some (vB ND):=by rw[eg,u9 (by simp)]
 have k6:=Fz g (.aD h.next 0 1 3) ND (by decide) (vG.rd ⟨rfl,.inr ⟨h.next,rfl,gg,by rw[eg];simp,by decide⟩⟩)
 rw[Nt]at k6
 simp only[uq,uS]at k6
 have eT:vB ND=[.int .i64 0,.int .i64 3,.int .i64 1]:=rfl
 rw[eT]at eg
 have n0:∀(k:Int) (g:H),aQ AP.A 9 [.int .i64 k] g=some (.int .i64 k,g):=fun k g=>KG g k
 generalize BW AA la lb Lc=D at *
 generalize CO (tokens AA)=TV at *
 have e1:(⟨#[97,97]⟩:ByteArray)=AA:=rfl
 have e2:(⟨#[104,105]⟩:ByteArray)=HI:=rfl
 have q1:bh .eql (.str ⟨#[1,2,0,253,255,104,105]⟩) (.str ⟨#[1,2,0,253,255,104,105]⟩)=some (.bool true):=by simp [bh,jy]
 have q2:bh .eql (.str ⟨#[75,76,4,0]⟩) (.str ⟨#[75,76,4,0]⟩)=some (.bool true):=by simp [bh,jy]
 have q3:bh .eql (.str AA) (.str AA)=some (.bool true):=by simp [bh,jy]
 have zd:((D.size:Int)==(D.size:Int))=true:=by simp
 have z0:((0:Int)==0)=true:=by decide
 have z8:((800:Int)==800)=true:=by decide
 refine tB (fn:=AP.f324) (h2:=g) (e:=[(0,.bool true)]) (vs:=[.bool true]) rfl rfl rfl ?_ rfl rfl
 clear ok zC tl i1 sz k5 gg eT
 simp (disch:=omega)only[go_sem,vo,AP.f324,e1,e2,k1,k2,k3,k4,k5',hN,←eg,k6,vX,n0,q1,q2,q3,zd,z0,z8]
theorem Gh (l:List Nat) (b:Nat):wN (l++[b])=wN l++[⟨(b:Nat),0,0⟩]:=by simp [wN]
theorem Ji (s:ByteArray) (n:Nat):∀b∈preB s n,b<256:=by
 intro b hb
 obtain⟨j,_,rfl⟩:=QP.1 hb
 exact zt s j
theorem Nb (h:H) (hf:h.floor≤h.next) (T:ByteArray) (o:List Nat) (sz:T.size<1125899906842624) (i:wW T 300=.ok (o,T.size)):aQ AP.A 7 [.str T,.int .i64 300] h=some (.bJ [.str (bytesOf o),.int .i64 T.size,.int .i64 0],h):=by
 have k:=Dh h hf T 300 sz
 rw[i]at k
 exact k
theorem GY {ts:List Tok} (zC:ym ts=true) {KA KB KC:Nat} {la lb Lc:List Int} (ok:zV ts KA KB KC la lb Lc) (h:H) (hf:h.floor≤h.next):aQ AP.A 7 [.str (bytesOf (vm (vp ts la lb Lc))),.int .i64 300] h=some (.bJ [.str (bytesOf (wg ts [])),.int .i64 (bytesOf (vm (vp ts la lb Lc))).size,.int .i64 0],h):=by
 have i1:=D3 zC ok (most:=300) (by omega) (by omega)
 have sz:(bytesOf (vm (vp ts la lb Lc))).size<1125899906842624:=by
  have:=(GR ok).2
  rw[zY];omega
 exact Nb h hf _ _ sz i1
theorem Hl (s:ByteArray) (hs:s.size≤300):∀(n i:Nat) (h:H) (ov:AV),i+n=s.size→vG 3 h ov i (vB (wN (preB s i)))→h.floor≤h.next→
 ∃ h' ov', Lp AP.A [5, 7, 8, 9] AP.f319L0 [(5, .str s), (7, .int .i64 0), (8, ov), (9, .int .i64 i)] h = some (.exit 0, [(5, .str s), (7, .int .i64 0), (8, ov'), (9, .int .i64 s.size), (36, .bool false)], h') ∧
   vG 3 h' ov' s.size (vB (wN (preB s s.size)))∧h'.floor=h.floor∧h'.floor≤h'.next
 | 0, i, h, ov, hi, o, hf => by
   obtain rfl:i=s.size:=by omega
   refine⟨h,ov,sJ ?_,o,rfl,hf⟩
   simp (disch:=omega)only[go_sem,vo,AP.f319L0,vX]
 | n + 1, i, h, ov, hi, o, hf => by
   have bl:=zt s i
   have c:(i:Int)<s.size:=by omega
   have hx:=yq (s:=s) (i:=(i:Int)) ⟨by omega,by omega⟩
   rw[show((i:Int)).toNat=i by omega]at hx
   have w8:IntKind.wrap .i64 ((wO s i:Nat):Int)=((wO s i:Nat):Int):=wi (by omega)
   obtain⟨v',h1,p1,p2,p3,p4,p5,p6⟩:=o.push (by omega) (z:=24) (m:=1) (by omega) (by omega) (CY ⟨(wO s i:Nat),0,0⟩) rfl rfl (by simp [roomy];omega)
   have o2:vG 3 h1 v' (i+1) (vB (wN (preB s (i+1)))):=by rw[y9,Gh,CM];exact p2
   obtain⟨h2,ov2,L,r1,r2,r3⟩:=Hl s hs n (i+1) h1 v' (by omega) o2 (by omega)
   refine⟨h2,ov2,sK ?_ L,r1,by omega,r3⟩
   simp only[CY,JH,ints,QO,Rj,I]at p1
   have n1:((i+1:Nat):Int)=(i:Int)+1:=by omega
   rw[n1]
   clear L r1 o2 p2 o
   generalize ((wO s i:Nat):Int)=Y at *
   simp (disch:=omega)only[go_sem,vo,AP.f319L0,vX,c,hx,w8,p1]
theorem JX (h:H) (hf:h.floor≤h.next) (v:AV) (ts:List Tok) (hn:ts.length<1125899906842624) (rd:∀g,xH 3 g v ts.length (vB ts)):aQ AP.A 319 [v] h=some (.bool true,h):=by
 have ka:=Is h.dG (by simp)
 have n0:∀(k:Int) (g:H),aQ AP.A 9 [.int .i64 k] g=some (.int .i64 k,g):=fun k g=>KG g k
 have z0:((0:Int)==0)=true:=by decide
 have q0:bh .eql (.str ⟨#[]⟩) (.str ⟨#[]⟩)=some (.bool true):=by simp [bh,jy]
 by_cases zC:ym ts=true
 · obtain⟨KA,KB,KC,la,lb,Lc,ok⟩:=IF zC
   have k3:=Gp h.dG v ts KA KB KC la lb Lc ok (rd _)
   have i3:=GY zC ok h.dG (by simp)
   have tl:=(BX zC).2.2.2.2
   have ts':(bytesOf (wg ts [])).size≤300:=by rw[vH];exact tl
   clear ok
   generalize bytesOf (vm (vp ts la lb Lc))=C at *
   generalize bytesOf (wg ts [])=T at *
   have hp:=Ji T T.size
   have few2:=I5 hp (by rw[wK];omega)
   obtain⟨h2,ov,L,o,f1,f2⟩:=Hl T ts' T.size 0 h.dG .aO (by omega) vG.nil (by simp)
   have L':Lp AP.A [5,7,8,9] AP.f319L0 [(5,.str T),(7,.int .i64 0),(8,.aO),(9,.int .i64 0)] h.dG=some (.exit 0,[(5,.str T),(7,.int .i64 0),(8,ov),(9,.int .i64 T.size),(36,.bool false)],h2):=L
   obtain⟨KA',KB',KC',la',lb',Lc',ok'⟩:=IF few2
   have ll:(wN (preB T T.size)).length=T.size:=by rw[HV,wK]
   have k4:=Gp h2 ov (wN (preB T T.size)) KA' KB' KC' la' lb' Lc' ok' (by rw[ll];exact o.rd)
   have i4:=GY few2 ok' h2 f2
   rw[Cm,List.nil_append,show bytesOf (preB T T.size)=T from Cu T]at i4
   generalize bytesOf (vm (vp (wN (preB T T.size)) la' lb' Lc'))=D at *
   have qs:bh .eql (.str T) (.str T)=some (.bool true):=by simp [bh,jy]
   refine tB (fn:=AP.f319) (h2:=h2) (e:=[(2,.bool true)]) (vs:=[.bool true]) rfl rfl rfl ?_ rfl rfl
   clear L o zC few2 hp ok' ll rd ts' f1 f2
   simp (disch:=omega)only[go_sem,vo,AP.f319,rH,ka,vX,k3,i3,L',k4,i4,n0,z0,qs]
 · have few':ym ts=false:=by simpa using zC
   have k3:=Jg h.dG v ts hn few' (rd _)
   refine tB (fn:=AP.f319) (h2:=h.dG) (e:=[(2,.bool true)]) (vs:=[.bool true]) rfl rfl rfl ?_ rfl rfl
   simp (disch:=omega)only[go_sem,vo,AP.f319,ka,k3,n0,z0,q0]
theorem CU (r:List (Ty×List AV)) (h:r.map (·.1)=[Hq]) (hp:∀x∈r,Sh reachBytes x.1 x.2):aQ AP.A 319 (r.map jx) H.empty=some (.bool true,H.empty):=by
 obtain⟨x,rfl,h1⟩:=Pv h hp
 obtain⟨v,ts,rfl,hv,rd,hn⟩:=Kn h1
 exact JX H.empty (uv _) v ts (by omega) rd
end Ab
