/- Part C2. -/
import Derived.Test.YtmckmpeekikfdaaC1
set_option linter.unusedSimpArgs false
set_option linter.unusedVariables false
namespace Ab
open Go
theorem dt {p:Prop} [Decidable p] (h:p):decide p=true:=R0 h
theorem df {p:Prop} [Decidable p] (h:¬p):decide p=false:=RY h
theorem QP {a b:Int} (h:a=b):(a==b)=true:=by simp [h]
theorem QO {a b:Int} (h:¬a=b):(a==b)=false:=by simp [h]
theorem QT {a b:Int} (h:¬a=b):(a !=b)=true:=by simp [h]
theorem QS {a b:Int} (h:a=b):(a !=b)=false:=by simp [h]
theorem wi {n:Int} (h: -9223372036854775808≤n∧n<9223372036854775808):IntKind.wrap .i64 n=n:=td h.1 (by omega)
theorem wb {n:Int} (h:0≤n∧n<256):IntKind.wrap .u8 n=n:=by
 simp [IntKind.wrap,IntKind.bits,IntKind.signed];omega
theorem OW {i:Int} {n:Nat} (h:0≤i∧i<n):cH (.int .i64 i) n=some i.toNat:=by
 simp [cH,nk,h]
def at_:Nat→aG→aG
 |0,.seq a _=>a
 |0,c=>c
 |n+1,.seq _ b=>at_ n b
 |_+1,c=>c
def Mk:Nat→aG→aG
 |0,c=>c
 |n+1,.seq _ b=>Mk n b
 |_+1,c=>c
theorem G7 (a b:aG):at_ 0 (.seq a b)=a:=rfl
theorem IE (n:Nat) (a b:aG):at_ (n+1) (.seq a b)=at_ n b:=rfl
theorem OK (c:aG):Mk 0 c=c:=rfl
theorem OJ (n:Nat) (a b:aG):Mk (n+1) (.seq a b)=Mk n b:=rfl
theorem AL {h:H} {id i:Nat} (e:¬i=id):(h.del id).get i=h.get i:=by rw[H.dK,if_neg e]
theorem A5 (h:H):h.dH.next=h.next:=uo rfl rfl
theorem AN (h:H):h.dH.floor=h.next:=uo rfl rfl
theorem AQ (h:H) (i:Nat):h.dH.get i=h.get i:=uo rfl rfl
theorem E4 (h:H) (i:Nat):(h.del i).next=h.next:=uo rfl rfl
theorem ET (h:H) (i:Nat):(h.del i).floor=h.floor:=uo rfl rfl
theorem vk {h:H} {cs:List AV} {i:Nat} (e:i=h.next):(h.alloc cs).get i=some cs:=by rw[H.aW,if_pos e]
theorem vg {h:H} {cs:List AV} {i:Nat} (e:¬i=h.next):(h.alloc cs).get i=h.get i:=by rw[H.aW,if_neg e]
theorem vq {h:H} {cs:List AV} {id i:Nat} (e:i=id):(h.set id cs).get i=(h.get i).map fun _=>cs:=by rw[H.de,if_pos e,e]
theorem uY {h:H} {cs:List AV} {id i:Nat} (e:¬i=id):(h.set id cs).get i=h.get i:=by rw[H.de,if_neg e]
def xe {α:Type} (b:Bool) (x:α):Option α:=if b then some x else none
theorem HP {α:Type} (x:α):xe true x=some x:=rfl
theorem KD (h:H) (id off n:Nat) (v cs:List AV):tG h id off n v (some cs)=xe (decide (h.floor≤id)&&(decide (v.length=n)&&(decide (off+n≤cs.length)&&AV.aC v))) (h.set id (setFrom cs off v)):=by
 simp only[tG,uv,xe]
 by_cases c:h.floor≤id∧v.length=n∧off+n≤cs.length∧AV.aC v=true
 · rw[if_pos c];obtain⟨c1,c2,c3,c4⟩:=c;simp [c1,c2,c3,c4]
 · rw[if_neg c,if_neg];simpa using c
theorem KV (n:Nat) (cs:List AV) (off:Nat):gI true n cs off=xe (decide (off+n≤cs.length)) (.agg ((cs.drop off).take n)):=by
 simp only[gI,xe,if_true,decide_eq_true_eq]
theorem JN (z:List AV):dI z []=some z:=rfl
def F0 (r:List (Nat×Nat×AV)) (p:Option (List AV)):Option (List AV):=p.bind fun z=>dI z r
theorem HY (r:List (Nat×Nat×AV)) (z:List AV):F0 r (some z)=dI z r:=rfl
theorem JM (z:List AV) (o n:Nat) (v:AV) (r:List (Nat×Nat×AV)):dI z ((o,n,v)::r)=F0 r (xe (decide (v.cells.length=n)&&(decide (o+n≤z.length)&&AV.aC v.cells)) (setFrom z o v.cells)):=by
 simp only[dI,xe]
 by_cases c:v.cells.length=n∧o+n≤z.length∧AV.aC v.cells=true
 · rw[if_pos c];obtain⟨c1,c2,c3⟩:=c;simp [c1,c2,c3,F0]
 · rw[if_neg c,if_neg]; · rfl
   simpa using c
def FG (p:Option (List AV)) (f:Nat→AV):Option (List AV×(Nat→AV)):=p.bind fun cs=>some (cs,f)
theorem Jy (cs:List AV) (f:Nat→AV):FG (some cs) f=some (cs,f):=rfl
theorem DQ (e:Env) (z:List AV):aY e (.alloc z)=FG (xe (AV.aC z) z) (fun i=>.aD i 0):=by
 simp only[aY,xe];split<;>rfl
theorem HM (e:Env) (n:Nat) (x:X):aY e (.box n x)=FG (xe (decide ((x.ev e).cells.length=n)&&AV.aC (x.ev e).cells) (x.ev e).cells) (fun i=>.aD i 0):=by
 simp only[aY,xe]
 by_cases c:(x.ev e).cells.length=n∧AV.aC (x.ev e).cells=true
 · rw[if_pos c];simp [c,FG]
 · rw[if_neg c,if_neg]; · rfl
   simpa using c
theorem Cw (e:Env) (sz len:Nat) (z:List AV) (ps:List (Nat×X)):aY e (.cx sz len z ps)=FG (F0 (ps.map fun p=>(p.1* sz,sz,p.2.ev e)) (xe (decide (z.length=sz)&&(decide (0<sz)&&AV.aC z)) (dy len z))) (fun i=>.aE i 0 len sz):=by
 simp only[aY,xe]
 by_cases c:z.length=sz∧0<sz∧AV.aC z=true
 · rw[if_pos c];simp [c,FG,F0]
 · rw[if_neg c,if_neg]; · rfl
   simpa using c
theorem Kn (z:List AV):dy 0 z=[]:=rfl
theorem Km (n:Nat) (z:List AV):dy (n+1) z=z++dy n z:=rfl
def Oi (vP:List Nat) (e:Env) (h:H) (b:Bool):dp:=if b then some (.normal,ay e vP,h)else none
theorem JV (vP:List Nat) (e:Env) (h:H):Oi vP e h true=some (.normal,ay e vP,h):=rfl
def QQ (c:ae) (ops:List aj) (fl:List (Nat×List Nat)) (vP:List Nat) (p:Option (Env×H×List H)):dp:=p.bind fun q=>Oi vP q.1 q.2.1 (aZ c ops q.1 q.2.2 fl)
theorem LU (c:ae) (ops:List aj) (fl:List (Nat×List Nat)) (vP:List Nat) (e:Env) (h:H) (gs:List H):QQ c ops fl vP (some (e,h,gs))=Oi vP e h (aZ c ops e gs fl):=rfl
theorem HK (c:ae) (l:bF) (ord:List Nat) (ops:List aj) (x:Nat×List Nat) (fl:List (Nat×List Nat)) (vP:List Nat) (e:Env) (h:H):aL c l (.iy ord ops (x::fl) vP) e h=QQ c ops (x::fl) vP (aN c ops e h):=by
 rw[aL];rfl
theorem Mj (c:ae) (ops:List aj) (e:Env) (gs:List H):aZ c ops e gs []=true:=rfl
def Qs (c:ae) (ops:List aj) (e:Env) (gs:List H) (i:Nat) (ks:List Nat):Bool:=ks.all (bD c ops e gs i)
theorem Mi (c:ae) (ops:List aj) (e:Env) (gs:List H) (i:Nat) (ks:List Nat) (r:List (Nat×List Nat)):aZ c ops e gs ((i,ks)::r)=(Qs c ops e gs i ks&&aZ c ops e gs r):=rfl
theorem Mg (c:ae) (ops:List aj) (e:Env) (gs:List H) (i:Nat):Qs c ops e gs i []=true:=rfl
def OG (c : ae) (e : Env) (o : Option aj) (g : Option H) : Bool := match o, g with
 | some o, some g =>
   if o.op.aI then
    match o.dst.map (look e)with
    |some (.bK [])=>true
    | some v => (match v.id?, aY e o.op with
      |some id,some b=>(match g.get id with|some cs=>AV.fH cs b.1|none=>false)
      |_,_=>false)
    |none=>false
   else match o.dst.map (look e)with
    |some v=>(match ai c o e g with|some (u,_)=>AV.beq u v|none=>false)
    |none=>false
 |_,_=>false
theorem Mf (c:ae) (ops:List aj) (e:Env) (gs:List H) (i k:Nat) (r:List Nat):Qs c ops e gs i (k::r)=(OG c e (ops[i]?) (gs[k]?)&&Qs c ops e gs i r):=by
 unfold Qs
 rw[List.all_cons]
 congr 1
def QK (v:AV) (p:Option (AV×H)):Bool:=match p with|some (u,_)=>AV.beq u v|none=>false
theorem Mh (v u:AV) (h:H):QK v (some (u,h))=AV.beq u v:=rfl
def OQ (b:Bool) (x y:Bool):Bool:=if b then x else y
theorem Md (x y:Bool):OQ false x y=y:=rfl
def DM (c:ae) (e:Env) (o:Option aj) (g:Option H):Bool:=OG c e o g
theorem Mc (c:ae) (e:Env) (d:Nat) (op:bS) (g:H):OG c e (some ⟨some d,op,none⟩) (some g)=OQ op.aI (DM c e (some ⟨some d,op,none⟩) (some g)) (QK (look e d) (ah c e g op)):=by
 unfold DM OG OQ
 dsimp only
 cases op.aI<;>rfl
theorem Mb (c:ae) (e:Env) (d:Nat) (op:bS) (k:Nat) (w:Bool) (g:H):OG c e (some ⟨some d,op,some (k,w)⟩) (some g)=OQ op.aI (DM c e (some ⟨some d,op,some (k,w)⟩) (some g)) (QK (look e d) (kH w c e g op (look e k))):=by
 unfold DM OG OQ
 dsimp only
 cases op.aI with
 |true=>rfl
 |false=>rw[mw];rfl
mutual
theorem beq_refl:∀a:AV,AV.beq a a=true
 | .bot=>rfl
 | .bool b=>by simp [AV.beq]
 | .int k n=>by simp [AV.beq]
 | .str s=>Ck s
 | .cf=>rfl
 | .aD i o=>by simp [AV.beq]
 | .aK c o=>by simp [AV.beq,wU c]
 | .aP=>rfl
 | .aE i o l z=>by simp [AV.beq]
 | .aV t c o l z=>by simp [AV.beq,wU c]
 | .fn f a b=>by simp [AV.beq,wU a,wU b]
 | .eF=>rfl
 | .iface t v=>by simp [AV.beq,beq_refl v]
 | .eG=>rfl
 | .agg c=>by simp [AV.beq,wU c]
 | .bK c=>by simp [AV.beq,wU c]
theorem wU:∀l:List AV,AV.fH l l=true
 |[]=>rfl
 |a::l=>by simp [AV.fH,beq_refl a,wU l]
end
theorem Me (x y:Bool):OQ true x y=x:=rfl
def OZ (c:Option (List AV)) (d:List AV):Bool:=match c with|some cs=>AV.fH cs d|none=>false
theorem LR (c d:List AV):OZ (some c) d=AV.fH c d:=rfl
def Fo (v : AV) (b : Option (List AV × (Nat → AV))) (g : H) : Bool := match v with
 | .bK []=>true
 | v => match v.id?, b with
   |some id,some b=>OZ (g.get id) b.1
   |_,_=>false
theorem Kz (b:Option (List AV×(Nat→AV))) (g:H):Fo (.bK []) b g=true:=rfl
theorem Ky (i o:Nat) (cs:List AV) (f:Nat→AV) (g:H):Fo (.aD i o) (some (cs,f)) g=OZ (g.get i) cs:=rfl
theorem Kx (i o l z:Nat) (cs:List AV) (f:Nat→AV) (g:H):Fo (.aE i o l z) (some (cs,f)) g=OZ (g.get i) cs:=rfl
theorem Cr {c : ae} {e : Env} {d : Nat} {op : bS} {gd : Option (Nat × Bool)} {g : H} (hb : op.aI = true) : DM c e (some ⟨some d, op, gd⟩) (some g) = Fo (look e d) (aY e op) g := by
 unfold DM OG
 dsimp only
 rw[hb,if_pos rfl]
 show (match some (look e d) with
  |some (.bK [])=>true
  | some v => (match v.id?, aY e op with
    |some id,some b=>(match g.get id with|some cs=>AV.fH cs b.1|none=>false)
    |_,_=>false)
  |none=>false)=_
 generalize look e d=v
 unfold Fo OZ
 cases v with
 |bK vs=>cases vs<;>rfl
 |_=>cases aY e op<;>rfl
theorem Dr (c:ae) (e:Env) (d:Nat) (z:List AV) (gd:Option (Nat×Bool)) (g:H):DM c e (some ⟨some d,.alloc z,gd⟩) (some g)=Fo (look e d) (aY e (.alloc z)) g:=Cr rfl
theorem GK (c:ae) (e:Env) (d n:Nat) (x:X) (gd:Option (Nat×Bool)) (g:H):DM c e (some ⟨some d,.box n x,gd⟩) (some g)=Fo (look e d) (aY e (.box n x)) g:=Cr rfl
theorem B9 (c:ae) (e:Env) (d n m:Nat) (z:List AV) (ps:List (Nat×X)) (gd:Option (Nat×Bool)) (g:H):DM c e (some ⟨some d,.cx n m z ps,gd⟩) (some g)=Fo (look e d) (aY e (.cx n m z ps)) g:=Cr rfl
theorem Ew (c:ae) (e:Env) (d n m:Nat) (z:List AV) (x y:X) (gd:Option (Nat×Bool)) (g:H):DM c e (some ⟨some d,.iA n m z x y,gd⟩) (some g)=Fo (look e d) (aY e (.iA n m z x y)) g:=Cr rfl
theorem FA (b:Bool):AV.beq (.bool b) (.bool b)=true:=by simp [AV.beq]
theorem FE:AV.beq (.bK []) (.bK [])=true:=rfl
theorem FB:AV.beq .aP .aP=true:=rfl
theorem DP:AV.beq .cf .cf=true:=rfl
theorem J0 (sz id off len:Nat) (i:AV):fE sz (.aE id off len sz) i=tQ id off sz (cH i len):=by simp [fE,tQ]
theorem JZ (t:Bool) (cells:List AV) (sz off len:Nat) (i:AV):fE sz (.aV t cells off len sz) i=tR cells off sz (cH i len):=by simp [fE,tR]
def yZ (n:Nat) (z:List AV):List AV:=dy n z
def LX (sz bytes:Nat) (zero:List AV) (l c:AV):Option (List AV×(Nat→AV)):=
 match l,c with
 | .int .i64 l,.int .i64 c=>FG (xe (decide (0≤l)&&(decide (l≤c)&&(decide (c≤9223372036854775807)&&(decide ((bytes:Int)* c≤281474976710656)&&(decide (zero.length=sz)&&(decide (0<sz)&&AV.aC zero)))))) (yZ c.toNat zero)) (fun i=>.aE i 0 l.toNat sz)
 |_,_=>none
theorem E3 (sz bytes:Nat) (zero:List AV) (l c:Int):LX sz bytes zero (.int .i64 l) (.int .i64 c)=FG (xe (decide (0≤l)&&(decide (l≤c)&&(decide (c≤9223372036854775807)&&(decide ((bytes:Int)* c≤281474976710656)&&(decide (zero.length=sz)&&(decide (0<sz)&&AV.aC zero)))))) (yZ c.toNat zero)) (fun i=>.aE i 0 l.toNat sz):=rfl
theorem FH (e : Env) (sz bytes : Nat) (zero : List AV) (l c : X) : aY e (.iA sz bytes zero l c) = LX sz bytes zero (l.ev e) (c.ev e) := by
 simp only[aY]
 cases l.ev e with
 | int k l => cases k <;> cases c.ev e with
   | int k2 c => cases k2 <;> first
     |rfl
     | (simp only [E3, xe]
        by_cases q:0≤l∧l≤c∧c≤9223372036854775807∧(bytes:Int)* c≤281474976710656∧zero.length=sz∧0<sz∧AV.aC zero=true
        · rw[if_pos q];obtain⟨q1,q2,q3,q4,q5,q6,q7⟩:=q
          rw[if_pos]
          · rfl
          · simp [q1,q2,q3,q4,q5,q6,q7]
        · rw[if_neg q,if_neg]
          · rfl
          · simpa using q)
   |_=>rfl
 |_=>cases c.ev e<;>rfl
theorem zc (i o l z:Nat):iJ false (.aE i o l z)=some (.int .i64 l):=rfl
theorem EJ:iJ false .aP=some (.int .i64 0):=rfl
theorem G4 (t:Bool) (c:List AV) (o l z:Nat):iJ false (.aV t c o l z)=some (.int .i64 l):=rfl
theorem wg (s:ByteArray):iJ true (.str s)=some (.int .i64 s.size):=rfl
theorem KL (a b:Nat):((a:Int)+(b:Int)).toNat=a+b:=by omega
theorem HD (a:Nat):((a:Int)).toNat=a:=by omega
def xH (s:ByteArray) (i:Nat):Nat:=((s[i]?).map (·.toNat)).getD 0
theorem Bh (s:ByteArray) (i:Nat):xH s i<256:=by
 unfold xH
 cases s[i]? with
 |none=>simp
 |some b=>simp;exact b.toNat_lt
theorem zK {s:ByteArray} {i:Int} (h:0≤i∧i<s.size):lJ (.str s) (.int .i64 i)=some (.int .u8 (xH s i.toNat:Nat)):=by
 have hi:i.toNat<s.size:=by omega
 simp [lJ,OW h,xH,hi]
def BE {α:Type} (b:Bool) (x y:Option α):Option α:=if b then x else y
theorem Kr {α:Type} (x y:Option α):BE true x y=x:=rfl
theorem Kq {α:Type} (x y:Option α):BE false x y=y:=rfl
def OE (n o k:Nat) (p:Option (List AV)):Option (Nat×List AV):=p.bind fun cs=>xe (decide (o+k* n≤cs.length)) (k,(cs.drop o).take (k* n))
theorem Kw (n o k:Nat) (cs:List AV):OE n o k (some cs)=xe (decide (o+k* n≤cs.length)) (k,(cs.drop o).take (k* n)):=rfl
theorem L9 (h:H) (n p o k:Nat):aS h n (.aE p o k n)=OE n o k (h.get p):=by
 simp only[aS,if_true,OE]
 cases h.get p with
 |none=>rfl
 |some cs=>simp only[uv,xe,decide_eq_true_eq]
theorem L7 (h:H) (t:Bool) (n o k:Nat) (cs:List AV):aS h n (.aV t cs o k n)=xe (decide (o+k* n≤cs.length)) (k,(cs.drop o).take (k* n)):=by
 simp only[aS,if_true,xe,decide_eq_true_eq]
theorem L8 (h:H) (n:Nat):aS h n .aP=some (0,[]):=uo rfl rfl
theorem Ma (h:H) (s:ByteArray):aS h 1 (.str s)=some (s.size,s.data.toList.map fun b=>.int .u8 b.toNat):=uo rfl rfl
def OX (h:H) (n z:Nat) (a:AV) (p:Option (Nat×List AV)):Option (AV×H):=p.bind fun r=>dD h n z a r.1 r.2
theorem Jv (h:H) (n z:Nat) (a:AV) (m:Nat) (bs:List AV):OX h n z a (some (m,bs))=dD h n z a m bs:=rfl
theorem LQ (h:H) (n z:Nat) (a b:AV):kg h n z a b=OX h n z a (aS h n b):=uo rfl rfl
def Qy (h:H) (n z p o k m:Nat) (bs:List AV) (q:Option (List AV)):Option (AV×H):=q.bind fun cs=>
 BE (decide (o+(k+m)* n≤cs.length)) (some (.aE p o (k+m) n,h.set p (setFrom cs (o+k* n) bs))) (BE (decide (o+k* n=cs.length)&&roomy z (k+m)) (some (.aE h.next 0 (k+m) n,(h.del p).alloc (cs.drop o++bs))) none)
theorem LN (h:H) (n z p o k m:Nat) (bs cs:List AV):Qy h n z p o k m bs (some cs)=BE (decide (o+(k+m)* n≤cs.length)) (some (.aE p o (k+m) n,h.set p (setFrom cs (o+k* n) bs))) (BE (decide (o+k* n=cs.length)&&roomy z (k+m)) (some (.aE h.next 0 (k+m) n,(h.del p).alloc (cs.drop o++bs))) none):=rfl
theorem LP (h : H) (n z p o k m : Nat) (bs : List AV) : dD h n z (.aE p o k n) m bs = BE (decide (m = 0)) (some (.aE p o k n, h)) (BE (AV.aC bs && (decide (0 < n) && decide (h.floor ≤ p))) (Qy h n z p o k m bs (h.get p)) none) := by
 unfold dD BE
 by_cases c:m=0
 · simp [c]
 · rw [if_neg c]
   simp only[decide_eq_true_eq,if_neg c]
   by_cases c1:AV.aC bs=false∨n=0
   · rw[if_pos c1,if_neg]
     rcases c1 with c1|c1
     · simp [c1]
     · simp [c1]
   · rw[if_neg c1]
     have q1:AV.aC bs=true:=by cases q:AV.aC bs with|true=>rfl|false=>exact absurd (.inl q) c1
     by_cases c2:h.floor≤p
     · have qq:(AV.aC bs&&(decide (0<n)&&decide (h.floor≤p)))=true:=by simp [q1,c2];omega
       simp only[true_and,if_pos c2,qq,if_true,Qy,BE]
       cases h.get p with
       |none=>rfl
       |some cs=>simp only[uv,decide_eq_true_eq,uz]
     · have qq:(AV.aC bs&&(decide (0<n)&&decide (h.floor≤p)))=false:=by simp [c2]
       simp only[true_and,if_neg c2,qq];rfl
theorem LO (h:H) (n z m:Nat) (bs:List AV):dD h n z .aP m bs=BE (decide (m=0)) (some (.aP,h)) (BE (AV.aC bs&&(decide (0<n)&&roomy z m)) (some (.aE h.next 0 m n,h.alloc bs)) none):=by
 unfold dD BE
 by_cases c:m=0
 · simp [c]
 · rw[if_neg c]
   simp only[decide_eq_true_eq,if_neg c]
   by_cases c1:AV.aC bs=false∨n=0
   · rw[if_pos c1,if_neg]
     rcases c1 with c1|c1
     · simp [c1]
     · simp [c1]
   · rw[if_neg c1]
     have q1:AV.aC bs=true:=by cases q:AV.aC bs with|true=>rfl|false=>exact absurd (.inl q) c1
     have q2:0<n:=by omega
     simp [q1,q2]
theorem zP {b n:Nat} (h:1≤b∧(n+n/4+512)* b≤281474976710656):roomy b n=true:=by simp only[roomy,h.1,h.2,and_self,decide_true]
theorem L6 {h:H} {n p o k:Nat} {m:Int} {cs:List AV} (hg:h.get p=some cs) (hn:0<n) (hk:o+k* n≤cs.length) (hm:0≤m∧m.toNat≤(cs.length-o)/n):rF h n (.aE p o k n) none (some (.int .i64 m)) none=some (.aE p o m.toNat n):=by
 have h1:k≤(cs.length-o)/n:=by rw[Nat.le_div_iff_mul_le hn];omega
 simp only[rF,hn,and_self,if_true,hg,uv,aB]
 rw[if_pos ⟨by omega,h1⟩]
 have h3:jT (.int .i64 m) ((cs.length-o)/n)=some m.toNat:=by
  simp only[jT,nk,uv]
  rw[if_pos]
  omega
 simp [h3]
theorem JQ {α:Type} {C:α→List AV} {n:Nat} (hC:∀x,(C x).length=n):∀{l:List α} {i f:Nat} {x:α},l[i]?=some x→f<n→(l.flatMap C)[i* n+f]?=(C x)[f]?
 |[],i,f,x,h,_=>by simp at h
 | y :: l, 0, f, x, h, hf => by
   obtain rfl:y=x:=by simpa using h
   rw[R1,Nat.zero_mul,uF,R5 (by rw[hC];exact hf)]
 | y :: l, i + 1, f, x, h, hf => by
   rw[R1,R6 (by rw[hC,uQ];omega),hC]
   rw[show(i+1)* n+f-n=i* n+f by rw[uQ];omega]
   exact JQ hC (by simpa using h) hf
theorem Bp {α:Type} {C:α→List AV} {n:Nat} (hC:∀x,(C x).length=n):∀l:List α,(l.flatMap C).length=l.length* n
 |[]=>by simp
 |y::l=>by rw[R1,uU,hC,Bp hC l,RU,uQ];omega
theorem EU {α:Type} {C:α→List AV} {n:Nat} (hC:∀x,(C x).length=n):∀{l:List α} {i:Nat} {x:α},l[i]?=some x→((l.flatMap C).drop (i* n)).take n=C x
 |[],i,x,h=>by simp at h
 | y :: l, 0, x, h => by
   obtain rfl:y=x:=by simpa using h
   rw[R1,Nat.zero_mul,Sf,List.take_append_of_le_length (by rw[hC];omega),uP (by rw[hC];omega)]
 | y :: l, i + 1, x, h => by
   rw[R1,List.drop_append,List.drop_of_length_le (by rw[hC,uQ];omega),List.nil_append,hC,show(i+1)* n-n=i* n by rw[uQ];omega]
   exact EU hC (by simpa using h)
def yx (n:Nat) (h:H) (v:AV) (k:Nat) (cs:List AV):Prop:=aS h n v=some (k,cs)∧cs.length=k* n∧∀s,v≠.str s
theorem Rd.QU {h:H} {v:AV} {cs:List AV} (r:Rd h v cs):yx 1 h v cs.length cs:=⟨r.1,by omega,r.2⟩
theorem yx.len {n:Nat} {h:H} {v:AV} {k:Nat} {cs:List AV} (r:yx n h v k cs):iJ false v=some (.int .i64 k):=by
 obtain⟨r,_,hs⟩:=r
 unfold aS at r
 split at r
 · obtain⟨h1,h2⟩:=uj (uh r);subst h1;rfl
 · exact absurd rfl (hs _)
 · split at r
   · simp only[uf]at r
     obtain⟨c,_,r⟩:=r
     split at r
     · obtain⟨h1,h2⟩:=uj (uh r);simp [iJ,h1]
     · cases r
   · cases r
 · split at r
   · split at r
     · obtain⟨h1,h2⟩:=uj (uh r);simp [iJ,h1]
     · cases r
   · cases r
 · cases r
theorem yx.mono {n:Nat} {h g:H} {v:AV} {k:Nat} {cs:List AV} (r:yx n h v k cs) (hg:∀id c,h.get id=some c→g.get id=some c):yx n g v k cs:=by
 obtain⟨r,hl,hs⟩:=r
 refine⟨?_,hl,hs⟩
 unfold aS at r ⊢
 split at r
 · exact r
 · exact r
 · split at r
   · rename_i q;simp only[if_pos q,uf]at r ⊢
     obtain⟨c,h1,r⟩:=r
     exact⟨c,hg _ _ h1,r⟩
   · cases r
 · exact r
 · cases r
theorem yx.at_ {n : Nat} {h : H} {v : AV} {k : Nat} {cs : List AV} (r : yx n h v k cs) : ∃ ad : Int → Nat → AV,
 (∀i:Int,0≤i∧i<k→fE n v (.int .i64 i)=some (ad i 0))∧
 (∀(i:Int) (f g:Nat),0≤i∧i<k→eV g (ad i f)=some (ad i (f+g)))∧
 (∀(i:Int) (f:Nat) (g:H),0≤i∧i<k→jh g (ad i f)=some (ad i f,g))∧
 (∀g:H,(∀id c,h.get id=some c→g.get id=some c)→(∀(i:Int) (f:Nat) (c:AV),0≤i∧i<k→cs[i.toNat* n+f]?=some c→bO false 1 (ad i f) g=some c)∧
   ∀i:Int,0≤i∧i<k→bO true n (ad i 0) g=some (.agg ((cs.drop (i.toNat* n)).take n))):=by
 obtain⟨r,hl,hs⟩:=r
 unfold aS at r
 split at r
 · obtain⟨h1,h2⟩:=uj (uh r);subst h1
   exact⟨fun _ _=>.bot,fun i hi=>by omega,fun i f g hi=>by omega,fun i f g hi=>by omega,fun g _=>⟨fun i f c hi=>by omega,fun i hi=>by omega⟩⟩
 · exact absurd rfl (hs _)
 · rename_i id off len s
   split at r
   · rename_i q
     subst q
     simp only[uf]at r
     obtain⟨d,hd,r⟩:=r
     split at r
     · rename_i hle
       obtain⟨h1,h2⟩:=uj (uh r)
       subst h1
       have bnd:∀i:Int,0≤i∧i<len→i.toNat* s+s≤len* s:=fun i hi=>by
        have:=uD s (show i.toNat+1≤len by omega);rw[uQ]at this;omega
       refine⟨fun i f=>.aD id (off+i.toNat* s+f),fun i hi=>by simp [fE,OW hi],fun i f g _=>by simp [eV];omega,fun i f g _=>rfl,fun g hg=>⟨fun i f c hi hc=> ?_,fun i hi=> ?_⟩⟩
       · simp only[bO,hg _ _ hd,uv,gI,uw,uV]
         rw[←h2,uT]at hc
         split at hc
         · rw[uL]at hc;rw[ux];exact hc
         · cases hc
       · have:=bnd i hi
         simp only[bO,hg _ _ hd,uv,gI,if_true,Nat.add_zero]
         rw[if_pos (by omega),←h2,List.drop_take,List.take_take,List.drop_drop,Nat.min_eq_left (by omega)]
     · cases r
   · cases r
 · rename_i t cells off len s
   split at r
   · rename_i q
     subst q
     split at r
     · rename_i hle
       obtain⟨h1,h2⟩:=uj (uh r)
       subst h1
       have bnd:∀i:Int,0≤i∧i<len→i.toNat* s+s≤len* s:=fun i hi=>by
        have:=uD s (show i.toNat+1≤len by omega);rw[uQ]at this;omega
       refine⟨fun i f=>.aK cells (off+i.toNat* s+f),fun i hi=>by simp [fE,OW hi],fun i f g _=>by simp [eV];omega,fun i f g _=>rfl,fun g hg=>⟨fun i f c hi hc=> ?_,fun i hi=> ?_⟩⟩
       · simp only[bO,gI,uw,uV]
         rw[←h2,uT]at hc
         split at hc
         · rw[uL]at hc;rw[ux];exact hc
         · cases hc
       · have:=bnd i hi
         simp only[bO,gI,if_true,Nat.add_zero]
         rw[if_pos (by omega),←h2,List.drop_take,List.take_take,List.drop_drop,Nat.min_eq_left (by omega)]
     · cases r
   · cases r
 · cases r
def vY (n:Nat) (h:H) (v:AV) (k:Nat) (cs:List AV):Prop:=cs.length=k* n∧((v=.aP∧k=0)∨∃id,v=.aE id 0 k n∧h.get id=some cs∧h.floor≤id∧0<k)
theorem vY.nil {n:Nat} {h:H}:vY n h .aP 0 []:=⟨by simp,.inl ⟨rfl,rfl⟩⟩
theorem vY.mono {n:Nat} {h g:H} {v:AV} {k:Nat} {cs:List AV} (o:vY n h v k cs) (hf:g.floor=h.floor) (hg:∀i,v.id?=some i→g.get i=h.get i):vY n g v k cs:=by
 obtain⟨l,o⟩:=o
 refine⟨l, ?_⟩
 rcases o with o|⟨id,rfl,h1,h2,h3⟩
 · exact .inl o
 · exact .inr ⟨id,rfl,by rw[hg id rfl];exact h1,by rw[hf];exact h2,h3⟩
theorem vY.sc {n:Nat} {h:H} {v:AV} {k:Nat} {cs:List AV} (o:vY n h v k cs):v.sc=true:=by
 rcases o.2 with ⟨rfl,_⟩|⟨id,rfl,_⟩<;>rfl
theorem vY.lt {n:Nat} {h:H} {v:AV} {k:Nat} {cs:List AV} (o:vY n h v k cs) {i:Nat} (hi:v.id?=some i):h.floor≤i∧i<h.next:=by
 rcases o.2 with ⟨rfl,_⟩|⟨id,rfl,h1,h2⟩
 · cases hi
 · obtain rfl:=uh hi;exact⟨h2.1,h.lt _ _ h1⟩
theorem vY.rd {n:Nat} {h:H} {v:AV} {k:Nat} {cs:List AV} (o:vY n h v k cs):yx n h v k cs:=by
 obtain⟨l,o⟩:=o
 rcases o with ⟨rfl,rfl⟩|⟨id,rfl,h1,h2⟩
 · have:cs=[]:=Si (by omega)
   subst this
   exact⟨rfl,by simp,fun _=>by simp⟩
 · refine⟨?_,l,fun _=>by simp⟩
   simp only[aS,if_true,h1,uv,uF]
   rw[if_pos (by omega),Sf,uP (by omega)]
theorem vY.app {n:Nat} {h:H} {v:AV} {k:Nat} {cs:List AV} (o:vY n h v k cs) (hfn:h.floor≤h.next) {z m:Nat} (hm:0<m) (hn:0<n) (bs:List AV) (hb:bs.length=m* n) (hc:AV.aC bs=true) (hr:roomy z (k+m)=true):
 ∃v' h',dD h n z v m bs=some (v',h')∧vY n h' v' (k+m) (cs++bs)∧h'.floor=h.floor∧h.next≤h'.next∧(∀i,v.id?≠some i→i≠h.next→h'.get i=h.get i)∧v'.id?=some h.next:=by
 obtain⟨hl,o⟩:=o
 have hll:(cs++bs).length=(k+m)* n:=by rw[uU,hl,hb,uQ]
 rcases o with ⟨rfl,rfl⟩|⟨id,rfl,hg,hf,_⟩
 · have:cs=[]:=Si (by omega)
   subst this
   refine⟨.aE h.next 0 m n,h.alloc bs, ?_,⟨hll,.inr ⟨h.next,by simp,by simp [H.aW],by simp;omega,by omega⟩⟩,by simp,by simp,fun i _ hi=>by rw[H.aW,if_neg hi],rfl⟩
   unfold dD
   rw[if_neg (by omega),if_neg (by simp [hc];omega)]
   rw[uF]at hr
   simp only[hr,if_true]
 · have hmn:0<m* n:=Nat.mul_pos hm hn
   have hnot:¬0+(k+m)* n≤cs.length:=by rw[hl,uQ];omega
   refine⟨.aE h.next 0 (k+m) n,(h.del id).alloc (cs++bs), ?_,⟨hll,.inr ⟨h.next,by simp,by simp [H.aW], ?_,by omega⟩⟩,by simp,by simp,fun i h1 h2=> ?_,rfl⟩
   · unfold dD
     rw[if_neg (by omega),if_neg (by simp [hc];omega)]
     simp only[hf,and_self,if_true,hg,uv]
     rw[if_neg hnot,if_pos ⟨by omega,hr⟩]
     simp
   · have:=h.lt id cs hg;simp;omega
   · rw[H.aW,H.jf,if_neg h2,H.dK,if_neg]
     intro e;subst e;exact h1 rfl
theorem vY.push {n:Nat} {h:H} {v:AV} {k:Nat} {cs:List AV} (o:vY n h v k cs) (hfn:h.floor≤h.next) {z m:Nat} (hm:0<m) (hn:0<n) (bs:List AV) (hb:bs.length=m* n) (hc:AV.aC bs=true) (hr:roomy z (k+m)=true):
 ∃v' h',kg (h.alloc bs) n z v (.aE h.next 0 m n)=some (v',h')∧vY n h' v' (k+m) (cs++bs)∧h'.floor=h.floor∧h.next+1≤h'.next∧(∀i,v.id?≠some i→i<h.next→h'.get i=h.get i)∧v'.id?=some (h.next+1):=by
 have o1:vY n (h.alloc bs) v k cs:=o.mono (by simp) fun i q=>by rw[H.aW,if_neg];have:=o.lt q;omega
 obtain⟨v',h',p1,p2,p3,p4,p5,p6⟩:=o1.app (z:=z) (by simp;omega) hm hn bs hb hc hr
 refine⟨v',h', ?_,p2,by rw[p3];simp,by simpa using p4,fun i q1 q2=> ?_,by simpa using p6⟩
 · have src:aS (h.alloc bs) n (.aE h.next 0 m n)=some (m,bs):=by
    simp only[aS,if_true,H.aW,uv,uF]
    rw[if_pos (by omega),Sf,uP (by omega)]
   unfold kg;rw[src,uv];exact p1
 · rw[p5 i q1 (by simp;omega),H.aW,if_neg (by omega)]
def za (n k:Nat) (cs:List AV):AV:=if k=0 then .aP else .aV false cs 0 k n
theorem HA {n k:Nat} {h:H} {cs:List AV} (hl:cs.length=k* n):yx n h (za n k cs) k cs:=by
 unfold za
 by_cases hk:k=0
 · subst hk
   have:cs=[]:=Si (by omega)
   subst this
   exact⟨rfl,by simp,fun _=>by simp⟩
 · rw[if_neg hk]
   refine⟨?_,hl,fun _=>by simp⟩
   simp only[aS,if_true,uF]
   rw[if_pos (by omega),Sf,uP (by omega)]
theorem vY.zQ {n:Nat} {h:H} {v:AV} {k:Nat} {l:List Int} {fl m:Nat} {t:Bool} (o:vY n h v k (ints l)) (hf:fl≤h.floor):snap h.get fl (m+2) t v=some (za n k (ints l)):=by
 obtain⟨hl,o⟩:=o
 rw[pk]at hl
 rcases o with ⟨rfl,rfl⟩|⟨id,rfl,q,h2,hk⟩
 · rfl
 · unfold snap
   rw[if_neg (by omega),q,uv,if_pos (by rw[pk];omega)]
   rw[Sf,uP (by rw[pk];omega),xz]
   unfold za
   rw[if_neg (by omega)];rfl
attribute [go_sem] List.map_cons List.map_nil Bool.and_true Bool.true_and Bool.and_self List.append_nil Option.map_some Option.map_none Bool.and_false Bool.false_and Bool.or_false Bool.or_true Bool.true_or Bool.false_or Bool.or_self bS.aO bS.aI Int.reduceAdd Int.reduceSub Int.reduceMul Int.reduceNeg Int.reduceToNat List.take_succ_cons List.take_zero List.drop_zero List.drop_succ_cons Int.cast_ofNat_Int Int.natCast_one Int.natCast_zero List.length_set
theorem vr:type_of% @dt∧type_of% @df∧type_of% @QP∧type_of% @QO∧type_of% @QT∧type_of% @QS∧type_of% @wi∧type_of% @wb∧type_of% @wg∧type_of% @zK∧type_of% @KL∧type_of% @HD∧type_of% @OW∧type_of% @vk∧type_of% @vg∧type_of% @vq∧type_of% @uY∧type_of% @H.iZ∧type_of% @H.jP∧type_of% @H.kG∧type_of% @H.jg∧type_of% @KD∧type_of% @HP∧type_of% @JN∧type_of% @JM∧type_of% @HY∧type_of% @Cw∧type_of% @DQ∧type_of% @HM∧type_of% @Jy∧type_of% @Km∧type_of% @Kn∧type_of% @pE∧type_of% @oO∧type_of% @qW∧type_of% @pN∧type_of% @J0∧type_of% @JZ∧type_of% @sg∧type_of% @sh∧type_of% @FH∧type_of% @E3∧type_of% @zc∧type_of% @EJ∧type_of% @G4∧type_of% @HK∧type_of% @LU∧type_of% @JV∧type_of% @Mj∧type_of% @Mi∧type_of% @Mg∧type_of% @Mf∧type_of% @Mh∧type_of% @Md∧type_of% @EN∧type_of% @FA∧type_of% @FE∧type_of% @FB∧type_of% @DP∧type_of% @Ck∧type_of% @Cu∧type_of% @FD∧type_of% @A6∧type_of% @E8∧type_of% @J9∧type_of% @EW∧type_of% @Fg∧type_of% @Ff∧type_of% @Mc∧type_of% @Mb∧type_of% @tw∧type_of% @beq_refl∧type_of% @wU∧type_of% @Me∧type_of% @LR∧type_of% @Kz∧type_of% @Ky∧type_of% @Kx∧type_of% @Dr∧type_of% @GK∧type_of% @B9∧type_of% @Ew:=⟨@dt, @df, @QP, @QO, @QT, @QS, @wi, @wb, @wg, @zK, @KL, @HD, @OW, @vk, @vg, @vq, @uY, @H.iZ, @H.jP, @H.kG, @H.jg, @KD, @HP, @JN, @JM, @HY, @Cw, @DQ, @HM, @Jy, @Km, @Kn, @pE, @oO, @qW, @pN, @J0, @JZ, @sg, @sh, @FH, @E3, @zc, @EJ, @G4, @HK, @LU, @JV, @Mj, @Mi, @Mg, @Mf, @Mh, @Md, @EN, @FA, @FE, @FB, @DP, @Ck, @Cu, @FD, @A6, @E8, @J9, @EW, @Fg, @Ff, @Mc, @Mb, @tw, @beq_refl, @wU, @Me, @LR, @Kz, @Ky, @Kx, @Dr, @GK, @B9, @Ew⟩
theorem Ci:type_of% @A5∧type_of% @AQ∧type_of% @AN∧type_of% @E4∧type_of% @ET∧type_of% @AL∧type_of% @KV∧type_of% @Kr∧type_of% @Kq∧type_of% @Kw∧type_of% @L9∧type_of% @L7∧type_of% @L8∧type_of% @Ma∧type_of% @Jv∧type_of% @LQ∧type_of% @LN∧type_of% @LP∧type_of% @LO∧type_of% @zP∧type_of% @G7∧type_of% @IE∧type_of% @OK∧type_of% @OJ:=⟨@A5, @AQ, @AN, @E4, @ET, @AL, @KV, @Kr, @Kq, @Kw, @L9, @L7, @L8, @Ma, @Jv, @LQ, @LN, @LP, @LO, @zP, @G7, @IE, @OK, @OJ⟩
theorem wM:type_of% @H.jP∧type_of% @H.jg∧type_of% @E4∧type_of% @A5∧type_of% @H.iZ∧type_of% @H.kG∧type_of% @ET∧type_of% @AN:=⟨@H.jP, @H.jg, @E4, @A5, @H.iZ, @H.kG, @ET, @AN⟩
theorem Cj:type_of% @vk∧type_of% @vg∧type_of% @vq∧type_of% @uY∧type_of% @AL∧type_of% @AQ:=⟨@vk, @vg, @vq, @uY, @AL, @AQ⟩
end Ab
set_option maxRecDepth 100000
namespace Ab
open Go
def Nk (c:Nat):Nat:=if c%2=1 then(c/2)^^^3988292384 else c/2
def HR:Nat→Nat→Nat
 |0,c=>c
 |n+1,c=>HR n (Nk c)
def K9 (c b:Nat):Nat:=HR 8 (c^^^b)
def JF (s:ByteArray):Nat→Nat→Nat→Nat
 |0,_,c=>c
 |n+1,i,c=>JF s n (i+1) (K9 c (xH s i))
def Ql (a:Nat) (s:ByteArray):Nat:=4294967295-JF s s.size 0 (4294967295-a)
def PD (s:ByteArray):Nat:=Ql 0 s
theorem GJ {a s:Nat} (hs:s≤64):oP .shr .i64 (a:Int) (s:Int)=some (.int .i64 ((a/2^s:Nat):Int)):=by
 unfold oP
 rw[if_neg (by omega)]
 simp only[IntKind.bits,Int.toNat_natCast,Nat.min_eq_left hs]
 rw[Int.fdiv_eq_ediv_of_nonneg _ (Int.pow_nonneg (by omega))]
 simp
theorem Fz {h:H} {v:AV} {k:Nat} {l:List Nat} (o:vY 1 h v k (yi l)):tu h v (aS h 1 v)=some (.str (bytesOf l),h):=by
 rw[o.rd.1]
 simp only[tu,uv,EL]
 rcases o.2 with ⟨rfl,_⟩|⟨id,rfl,_⟩<;>rfl
def yd (s:ByteArray) (i j:Nat):Nat→Nat→Nat
 |0,k=>k
 |f+1,k=>if k<258∧i+k<s.size∧xH s (i+k)=xH s (j+k)then yd s i j f (k+1)else k
def same (s:ByteArray) (i j:Nat):Nat:=yd s i j 258 0
def vK (s:ByteArray) (i:Nat):Nat→Nat×Nat→Nat×Nat
 |0,b=>b
 |j+1,b=>vK s i j (if b.1<same s i j then(same s i j,i-j)else b)
theorem GI (s:ByteArray) (i j:Nat):∀f k,yd s i j f k≤k+f
 |0,k=>by simp [yd]
 | f + 1, k => by
   unfold yd
   split
   · have:=GI s i j f (k+1);omega
   · omega
theorem Il (s:ByteArray) (i j:Nat):same s i j≤258:=by have:=GI s i j 258 0;unfold same;omega
theorem Dn (s:ByteArray) (i j:Nat) (hi:i≤s.size):∀f k,i+k≤s.size→i+yd s i j f k≤s.size
 |0,k,h=>by simpa [yd]using h
 | f + 1, k, h => by
   unfold yd
   split
   · rename_i q;exact Dn s i j hi f (k+1) (by omega)
   · exact h
theorem Eu (s:ByteArray) (i j:Nat) (hi:i≤s.size):i+same s i j≤s.size:=Dn s i j hi 258 0 (by omega)
theorem Cv (s:ByteArray) (i:Nat) (hi:i≤s.size):∀(j:Nat) (b:Nat×Nat),i+b.1≤s.size→i+(vK s i j b).1≤s.size
 |0,b,h=>h
 | j + 1, b, h => by
   unfold vK
   refine Cv s i hi j _ ?_
   split
   · exact Eu s i j hi
   · exact h
structure Tok where
 lit:Int
 len:Int
 vL:Int
deriving DecidableEq
def LJ (t:Tok):List Int:=[t.lit,t.len,t.vL]
def GW (t:Tok):List AV:=ints (LJ t)
def Ml (ts:List Tok):List Int:=ts.flatMap LJ
def v9 (ts:List Tok):List AV:=ts.flatMap GW
theorem Dz (t:Tok):(GW t).length=3:=rfl
theorem Jk (ts:List Tok):(v9 ts).length=ts.length* 3:=Bp Dz ts
theorem Ax:∀ts:List Tok,v9 ts=ints (Ml ts)
 |[]=>rfl
 | t :: ts => by
   have:=Ax ts
   unfold v9 Ml at *
   rw[R1,R1,ph,this];rfl
theorem HG (ts:List Tok) (t:Tok):v9 (ts++[t])=v9 ts++GW t:=by simp [v9]
def wC (s:ByteArray) (i:Nat):Tok×Nat:=
 if(vK s i i (0,0)).1<3 then(⟨xH s i,0,0⟩,i+1)else(⟨0,(vK s i i (0,0)).1,(vK s i i (0,0)).2⟩,i+(vK s i i (0,0)).1)
def zF (s:ByteArray):Nat→Nat→List Tok
 |0,_=>[]
 |f+1,i=>if i<s.size then(wC s i).1::zF s f (wC s i).2 else []
theorem GV (s:ByteArray) (i:Nat):i<(wC s i).2:=by
 unfold wC;split<;>simp<;>omega
theorem GU (s:ByteArray) (i:Nat) (hi:i<s.size):(wC s i).2≤s.size:=by
 unfold wC;split
 · exact hi
 · exact Cv s i (by omega) i (0,0) (by show i+0≤_;omega)
def Cf (ts:List Tok):AV:=za 3 ts.length (v9 ts)
def tokens (s:ByteArray):List Tok:=zF s s.size 0
def Ext (h g:H):Prop:=∀id c,h.get id=some c→g.get id=some c
theorem Ext.refl (h:H):Ext h h:=fun _ _ q=>q
theorem Ext.trans {a b c:H} (x:Ext a b) (y:Ext b c):Ext a c:=fun i d q=>y i d (x i d q)
theorem Ext.alloc {a h:H} (x:Ext a h) (cs:List AV):Ext a (h.alloc cs):=fun i d q=>by
 have:=h.lt _ _ (x i d q)
 rw[H.aW,if_neg (by omega)];exact x i d q
theorem Ext.set {a h:H} (x:Ext a h) {id:Nat} (hid:a.next≤id) (cs:List AV):Ext a (h.set id cs):=fun i d q=>by
 have:=a.lt _ _ q
 rw[H.de,if_neg (by omega)];exact x i d q
theorem yx.ON {h:H} {v:AV} {ts:List Tok} (r:yx 3 h v ts.length (v9 ts)):∃ad:Int→Nat→AV,
 (∀i:Int,0≤i∧i<ts.length→fE 3 v (.int .i64 i)=some (ad i 0))∧
 (∀(i:Int) (f g:Nat),0≤i∧i<ts.length→eV g (ad i f)=some (ad i (f+g)))∧
 ∀ g : H, Ext h g → ∀ (i : Nat) (t : Tok), ts[i]? = some t → bO false 1 (ad i 0) g = some (.int .i64 t.lit) ∧ bO false 1 (ad i 1) g = some (.int .i64 t.len) ∧ bO false 1 (ad i 2) g = some (.int .i64 t.vL) ∧
   bO true 3 (ad i 0) g=some (.agg [.int .i64 t.lit,.int .i64 t.len,.int .i64 t.vL]):=by
 obtain⟨ad,a1,a2,_,a3⟩:=r.at_
 refine⟨ad,a1,a2,fun g hg i t ht=> ?_⟩
 obtain⟨b1,b2⟩:=a3 g hg
 have hi:i<ts.length:=(uu.1 ht).1
 have hI:(0:Int)≤(i:Int)∧(i:Int)<ts.length:=⟨by omega,by omega⟩
 have ti:((i:Int)).toNat=i:=by omega
 have q:∀f,f<3→(v9 ts)[((i:Int)).toNat* 3+f]?=(GW t)[f]?:=fun f hf=>by rw[ti];exact JQ Dz ht hf
 refine⟨b1 i 0 _ hI (q 0 (by omega)),b1 i 1 _ hI (q 1 (by omega)),b1 i 2 _ hI (q 2 (by omega)), ?_⟩
 rw[b2 i hI,ti,v9,EU Dz ht];rfl
def v7 (size:Int) (t:Tok):Option Int:=
 if t.len=0 then(if t.lit<0∨255<t.lit∨t.vL≠0 then none else some (size+1))
 else if t.len<3∨258<t.len∨t.vL<1∨32768<t.vL∨size<t.vL∨t.lit≠0 then none else some (size+t.len)
def vy : Int → List Tok → Bool
 |_,[]=>true
 | s, t :: r => match v7 s t with
   |none=>false
   |some s'=>if 8192<s' then false else vy s' r
theorem Rd.xh {h:H} {v:AV} {l:List Int} (r:Rd h v (ints l)):∃ad:Int→AV,(∀i:Int,0≤i∧i<l.length→fE 1 v (.int .i64 i)=some (ad i))∧
 ∀g:H,Ext h g→∀(i:Nat) (n:Int),l[i]?=some n→bO false 1 (ad i) g=some (.int .i64 n):=by
 have r2:=r.QU
 rw[pk]at r2
 obtain⟨ad,a1,_,_,a3⟩:=r2.at_
 refine⟨fun i=>ad i 0,a1,fun g hg i n hn=> ?_⟩
 have hi:i<l.length:=(uu.1 hn).1
 refine(a3 g hg).1 i 0 _ ⟨by omega,by omega⟩ ?_
 rw[HD,Nat.mul_one,Nat.add_zero]
 exact sq hn
structure OR where
 name:ByteArray
 gone:Bool
 vec:List Int
 KE:Int
 node:Int
 method:Int
 packed:ByteArray
 size:Int
 Re:Int
structure PE (h:H) (p:AV) (cs:List AV):Prop where
 nil:∀g:H,jh g p=some (p,g)
 sU:∃q:Nat→AV,(∀k,eV k p=some (q k))∧∀g:H,Ext h g→∀(k:Nat) (c:AV),cs[k]?=some c→bO false 1 (q k) g=some c
abbrev OS:=OR×AV
structure Qw (h:H) (x:OS):Prop where
 vec:Rd h x.2 (ints x.1.vec)
 vl:x.1.vec.length<1125899906842624
 nl:x.1.name.size<1125899906842624
 pl:x.1.packed.size<1125899906842624
theorem Qw.mono {h g:H} {x:OS} (o:Qw h x) (e:Ext h g):Qw g x:=⟨o.vec.mono fun i c q=>e i c q,o.vl,o.nl,o.pl⟩
def wu (method : Int) (s : ByteArray) (size : Int) : Option ByteArray :=
 if size<0∨300<size then none
 else if method=0 then(if(s.size:Int)=size then some s else none)
 else if method=8 then(match vx s size with
  | .ok (o,took)=>if(o.length:Int)=size∧took=s.size then some (bytesOf o)else none
  | .error _=>none)
 else none
def OP:Option ByteArray→AV
 |some t=>.bK [.str t,.int .i64 0]
 |none=>.bK [.str ⟨#[]⟩,.int .i64 900]
theorem yL (h : H) (hf : h.floor ≤ h.next) (m : Int) (s : ByteArray) (z : Int) (hs : s.size < 1125899906842624) : aR AP.A 114 [.int .i64 m, .str s, .int .i64 z] h = some (OP (wu m s z), h) := by
 unfold wu
 by_cases c1:z<0
 · rw[if_pos (.inl c1)]
   refine tE (fn:=AP.f114) (h2:=h.dH) (e:=[(6,.str ⟨#[]⟩),(7,.int .i64 900)]) rfl rfl rfl ?_ rfl rfl
   simp (disch:=omega)only[go_sem,vr,AP.f114]
 by_cases c2:300<z
 · rw[if_pos (.inr c2)]
   refine tE (fn:=AP.f114) (h2:=h.dH) (e:=[(6,.str ⟨#[]⟩),(7,.int .i64 900)]) rfl rfl rfl ?_ rfl rfl
   simp (disch:=omega)only[go_sem,vr,AP.f114]
 rw[if_neg (by omega)]
 by_cases c3:m=0
 · rw[if_pos c3]
   by_cases c4:(s.size:Int)=z
   · rw[if_pos c4]
     refine tE (fn:=AP.f114) (h2:=h.dH) (e:=[(6,.str s),(7,.int .i64 0)]) rfl rfl rfl ?_ rfl rfl
     simp (disch:=omega)only[go_sem,vr,AP.f114]
   · rw[if_neg c4]
     refine tE (fn:=AP.f114) (h2:=h.dH) (e:=[(6,.str ⟨#[]⟩),(7,.int .i64 900)]) rfl rfl rfl ?_ rfl rfl
     simp (disch:=omega)only[go_sem,vr,AP.f114]
 rw[if_neg c3]
 by_cases c5:m=8
 · rw [if_pos c5]
   have k1:=D6 h.dH (by simp) s z hs
   simp only[I]at k1
   cases hi:vx s z with
   | error k =>
     rw[hi]at k1
     simp only[Om,I]at k1
     have hk:=EY hi
     have hk':¬k=0:=by rcases hk with rfl|rfl<;>decide
     clear hk
     refine tE (fn:=AP.f114) (h2:=h.dH) (e:=[(6,.str ⟨#[]⟩),(7,.int .i64 900)]) rfl rfl rfl ?_ rfl rfl
     simp (disch:=omega)only[go_sem,vr,AP.f114,k1]
   | ok r =>
     obtain⟨o,took⟩:=r
     rw[hi]at k1
     simp only[Om,I]at k1
     dsimp only
     have sz:=vZ o
     by_cases c6:(o.length:Int)=z
     · by_cases c7:took=s.size
       · rw[if_pos ⟨c6,c7⟩]
         refine tE (fn:=AP.f114) (h2:=h.dH) (e:=[(6,.str (bytesOf o)),(7,.int .i64 0)]) rfl rfl rfl ?_ rfl rfl
         simp (disch:=omega)only[go_sem,vr,AP.f114,k1,sz]
       · rw[if_neg (fun q=>c7 q.2)]
         refine tE (fn:=AP.f114) (h2:=h.dH) (e:=[(6,.str ⟨#[]⟩),(7,.int .i64 900)]) rfl rfl rfl ?_ rfl rfl
         simp (disch:=omega)only[go_sem,vr,AP.f114,k1,sz]
     · rw[if_neg (fun q=>c6 q.1)]
       refine tE (fn:=AP.f114) (h2:=h.dH) (e:=[(6,.str ⟨#[]⟩),(7,.int .i64 900)]) rfl rfl rfl ?_ rfl rfl
       simp (disch:=omega)only[go_sem,vr,AP.f114,k1,sz]
 · rw[if_neg c5]
   refine tE (fn:=AP.f114) (h2:=h.dH) (e:=[(6,.str ⟨#[]⟩),(7,.int .i64 900)]) rfl rfl rfl ?_ rfl rfl
   simp (disch:=omega)only[go_sem,vr,AP.f114]
theorem Hr (c:ae) (e:Env) (h:H) (x y:X):ah c e h (.mx [x,y])=cW h (lL (x.ev e) (y.ev e)):=by
 simp only[ah,aX,R3,SA,fR]
 cases lL (x.ev e) (y.ev e)<;>rfl
def Da (a b:Int):Int:=if a<b then b else a
theorem EK (k:IntKind) (a b:Int):lL (.int k a) (.int k b)=some (.int k (Da a b)):=rfl
theorem Rd.QH {h:H} {v:AV} {cs:List AV} (r:Rd h v cs) (hc:cs≠[]):fp 1 v .aP=some false:=by
 obtain⟨r,hs⟩:=r
 unfold aS at r
 split at r
 · obtain⟨_,h2⟩:=uj (uh r);exact absurd h2.symm hc
 · exact absurd rfl (hs _)
 · rfl
 · rfl
 · cases r
theorem IC {n:Nat} {h:H} {v:AV} {k:Nat} {cs:List AV} (r:yx n h v k cs) (hfn:h.floor≤h.next) (hn:0<n) (hk:0<k) {z:Nat} (hr:roomy z k=true) (hc:AV.aC cs=true):
 kg (h.alloc []) n z (.aE h.next 0 0 n) v=some (.aE (h.next+1) 0 k n,((h.alloc []).del h.next).alloc cs):=by
 have r2:yx n (h.alloc []) v k cs:=r.mono fun i c q=>by rw[H.aW,if_neg (by have:=h.lt _ _ q;omega)];exact q
 unfold kg
 rw[r2.1,uv]
 have hkn:0<k* n:=Nat.mul_pos hk hn
 unfold dD
 rw[if_neg (by omega),if_neg (by simp [hc];omega)]
 simp only[H.iZ,hfn,and_self,if_true]
 rw[vk rfl,uv,if_neg (by simp;omega),if_pos ⟨by simp,by simpa using hr⟩]
 simp
theorem CX:∀l:List Int,AV.aC (ints l)=true
 |[]=>rfl
 | n :: l => by
   have:=CX l
   show AV.aC (I n::ints l)=true
   rw[pN,this];rfl
theorem K7 (h:H) (v:AV) (l:List Int) (rd:Rd h v (ints l)) (hl:0<l.length) (hb:l.length<1000000) (hfn:h.floor≤h.next):aR AP.A 118 [v] h=some (.aE (h.next+1) 0 l.length 1,((h.alloc []).del h.next).alloc (ints l)):=by
 have r2:=rd.QU
 rw[pk]at r2
 have ap:=IC r2 hfn (by omega) hl (z:=8) (by simp [roomy];omega) (CX l)
 have nn:=rd.QH (fun q=>by
  have q2:(ints l).length=0:=by rw[q];rfl
  rw[pk]at q2
  omega)
 refine s7 (fn:=AP.f118) (h2:=((h.alloc []).del h.next).alloc (ints l)) (e:=[(2,.aE (h.next+1) 0 l.length 1)]) (vs:=[.aE (h.next+1) 0 l.length 1]) rfl rfl rfl ?_ rfl
 clear rd r2
 simp (disch:=omega)only[go_sem,vr,AP.f118,nn,ap]
def Ku (name:ByteArray) (node:Nat) (KE:Int) (text:ByteArray):OR:=⟨name,false,[0,0,0,0].set node KE,KE,node,0,text,text.size,PD text⟩
def nA:ByteArray:=⟨#[97]⟩
def QV:ByteArray:=⟨#[104,105]⟩
def Rh:ByteArray:=⟨#[104,111]⟩
def eA:OR:=Ku nA 0 1 QV
def eB:OR:=Ku nA 2 1 Rh
def eD:OR:={eA with Re:=(PD QV^^^1:Nat)}
def OH:Ty:=.str
theorem OC {avs:List AV} (h:Sh reachBytes .str avs):∃s:ByteArray,avs=[.str s]∧s.size<140737488355328:=by
 cases h with
 |str h=>exact⟨_,rfl,tH h⟩
theorem QJ {P:Ty×List AV→Prop} {a:Ty} {r:List (Ty×List AV)} (h:r.map (·.1)=[a]) (hp:∀x∈r,P x):∃x,r=[(a,x)]∧P (a,x):=by
 match r,h with
 |[(b,x)],h=>simp at h;subst h;exact⟨x,rfl,hp _ (by simp)⟩
def OL (s:ByteArray):List Nat:=s.data.toList.map (·.toNat)
theorem It (s:ByteArray):(OL s).length=s.size:=by unfold OL;rw[List.length_map,Array.length_toList];rfl
theorem OM (s:ByteArray):∀b∈OL s,b<256:=by
 intro b hb
 obtain⟨x,_,rfl⟩:=R4.1 hb
 exact x.toNat_lt
theorem BN (s:ByteArray):bytesOf (OL s)=s:=by
 unfold OL bytesOf;rw[List.map_map];apply ByteArray.ext;simp [Function.comp_def]
theorem IB (x:Int) (k:Nat) (hk:k≤62):bits .and .i64 x ((2^k-1:Nat):Int)=x%((2^k:Nat):Int):=by
 have h2:2^k≤2^62:=Sc (by omega) hk
 have h3:0<2^k:=Nat.pow_pos (by omega)
 show IntKind.wrap .i64 (((BitVec.ofInt 64 x&&&BitVec.ofInt 64 ((2^k-1:Nat):Int)).toNat:Nat):Int)=_
 rw[BitVec.toNat_and,xW 64 (2^k-1) (by omega),BitVec.toNat_ofInt,Nat.and_two_pow_sub_one_eq_mod,u4 (by
  have:=Nat.mod_lt (x%((2^64:Nat):Int)).toNat h3
  omega)]
 have e:(((x%((2^64:Nat):Int)).toNat:Nat):Int)=x%((2^64:Nat):Int):=Int.toNat_of_nonneg (Int.emod_nonneg _ (by decide))
 rw[Int.natCast_emod,e]
 refine Int.emod_emod_of_dvd x ?_
 refine Int.natCast_dvd_natCast.2 (Nat.pow_dvd_pow 2 (by omega))
theorem Q9 {n:Nat} (h:n<256):IntKind.wrap .u8 (n:Int)=n:=wb (by omega)
theorem Qu {a n:Nat} (hn:0<n):bj .rem (.int .i64 ((a:Nat):Int)) (.int .i64 (n:Int))=some (.int .i64 ((a%n:Nat):Int)):=by
 show(if(n:Int)=0 then none else some (AV.int .i64 ((a:Int).tmod n)))=_
 rw[if_neg (by omega),Int.tmod_eq_emod_of_nonneg (by omega)];rfl
theorem Aq:∀(l cs:List AV) (off:Nat),off+l.length≤cs.length→setFrom cs off l=cs.take off++(l++cs.drop (off+l.length))
 |[],cs,off,h=>by simp [setFrom]
 | v :: l, cs, off, h => by
   rw[RU]at h
   rw[setFrom,Aq l (cs.set off v) (off+1) (by rw[Sg];omega)]
   rw[List.take_set,List.drop_set_of_lt (by omega),RU,show off+1+l.length=off+(l.length+1)by omega]
   rw[List.take_succ_eq_append_getElem (by omega),List.set_append_right _ _ (by simp;omega)]
   simp [show min off cs.length=off by omega]
def vB (bs:List Nat):List Nat:=wS bs 0 []
theorem Aj:∀(a b:List Nat) (i:Nat) (out:List Nat),wS (a++b) i out=wS b (i+a.length) (wS a i out)
 |[],b,i,out=>rfl
 | x :: a, b, i, out => by
   show wS (a++b) (i+1) (vS out i x)=_
   rw[Aj a b]
   show wS b (i+1+a.length) _=wS b (i+(a.length+1)) _
   rw[show i+1+a.length=i+(a.length+1)by omega];rfl
theorem Ek (bs:List Nat) (b:Nat):vB (bs++[b])=vS (vB bs) bs.length b:=by
 unfold vB;rw[Aj,uF];rfl
theorem xA (bs:List Nat):(vB bs).length=(bs.length+7)/8:=by
 have:∀(l:List Nat) (i:Nat) (out:List Nat),out.length=(i+7)/8→(wS l i out).length=(i+l.length+7)/8:=by
  intro l
  induction l with
  |nil=>intro i out h;exact h
  |cons x l ih=>intro i out h;rw[wS,ih (i+1) _ (by rw[B4 h]),RU];congr 1;omega
 have:=this bs 0 [] rfl
 rw[vB,this,uF]
structure Wr (h:H) (w:Nat) (bs:List Nat) (ov:AV):Prop where
 get:h.get w=some [ov,.int .i64 (bs.length:Nat)]
 own:vY 1 h ov (vB bs).length (yi (vB bs))
 fl:h.floor≤w
 Jo:h.floor≤h.next
 ne:ov.id?≠some w
 HN:KQ (vB bs)
structure G0 (h:H) (w:Nat) (ov:AV) (h':H) (ov':AV):Prop where
 floor:h'.floor=h.floor
 next:h.next≤h'.next
 vP:∀i,i<h.next→i≠w→ov.id?≠some i→h'.get i=h.get i
 ids:∀j,ov'.id?=some j→ov.id?=some j∨h.next≤j
theorem G0.refl (h:H) (w:Nat) (ov:AV):G0 h w ov h ov:=⟨rfl,uy _,fun _ _ _ _=>rfl,fun _ h=>.inl h⟩
theorem G0.trans {h1 h2 h3:H} {w:Nat} {o1 o2 o3:AV} (a:G0 h1 w o1 h2 o2) (b:G0 h2 w o2 h3 o3):G0 h1 w o1 h3 o3:=
 ⟨by rw [b.floor, a.floor], uS a.next b.next, fun i h hw ho => by
   rw[b.vP i (by have:=a.next;omega) hw (fun q=>by rcases a.ids i q with q|q;exact ho q;omega),a.vP i h hw ho],
  fun j h=>by
   rcases b.ids j h with q|q
   · exact a.ids j q
   · exact .inr (uS a.next q)⟩
theorem LH {b k:Nat} (hb:b≤1) (hk:k<8):oP .shl .i64 (b:Int) ((k:Nat):Int)=some (.int .i64 ((b* 2^k:Nat):Int)):=by
 unfold oP
 rw[if_neg (by omega)]
 simp only[IntKind.bits,Int.toNat_natCast,show min k 64=k by omega]
 have h1:2^k≤2^7:=Sc (by omega) (by omega)
 have h2:b* 2^k≤1* 2^7:=Nat.mul_le_mul hb h1
 have:(b:Int)* 2^k=((b* 2^k:Nat):Int):=by rw[Int.natCast_mul,Int.natCast_pow];rfl
 rw[this,wi (by omega)]
theorem O3 {l:List Nat} {i x:Nat} (h:l[i]?=some x):(yi l)[i]?=some (.int .u8 (x:Int)):=by simp [yi,h]
theorem QA (l:List Nat) (i x:Nat):(yi l).set i (.int .u8 (x:Int))=yi (l.set i x):=by simp [yi,List.map_set]
theorem Mo (l:List Nat):(yi l).length=l.length:=by simp [yi]
theorem FJ (P:List Nat) (x:Nat):yi (P++[x])=yi P++[.int .u8 (x:Int)]:=by simp [yi]
def BC (v:Nat):Nat→Nat→List Nat
 |_,0=>[]
 |i,m+1=>v/2^i%2::BC v (i+1) m
def vh (v n:Nat):List Nat:=BC v 0 n
def xX (v:Nat):Nat→List Nat
 |0=>[]
 |m+1=>v/2^m%2::xX v m
theorem vt (v:Nat):∀m i,(BC v i m).length=m
 |0,_=>rfl
 |m+1,i=>by simp [BC,vt v m]
theorem wc (v:Nat):∀m,(xX v m).length=m
 |0=>rfl
 |m+1=>by simp [xX,wc v m]
theorem Fy {n:Nat} (h:n<1000000000):bits .and .i64 (n:Int) 1=((n%2:Nat):Int):=by
 have:=IB (n:Int) 1 (by omega)
 exact this.trans (by omega)
def vj (o:Option (Nat×Nat)):Nat:=(o.getD (0,0)).1
def wv (o:Option (Nat×Nat)):Nat:=(o.getD (0,0)).2
def yM (f:Nat→Option (Nat×Nat)) (k:Nat):Nat→Nat
 |0=>0
 |s+1=>if vj (f (s+1))≤k then s+1 else yM f k s
def xp (k:Nat):Nat:=yM lenOf k 285
def zm (k:Nat):Nat:=wv (lenOf (xp k))
def Af (k:Nat):Nat:=k-vj (lenOf (xp k))
def xI (k:Nat):Nat:=yM vw k 29
def zU (k:Nat):Nat:=wv (vw (xI k))
def AM (k:Nat):Nat:=k-vj (vw (xI k))
theorem Ae {s:Nat} (h1:257≤s) (h2:s≤285):∃a b,lenOf s=some (a,b):=by
 unfold lenOf;rw[if_neg (by omega)];split;exact⟨_,_,rfl⟩;split<;>exact⟨_,_,rfl⟩
theorem zh {s:Nat} (h2:s≤29):∃a b,vw s=some (a,b):=by
 unfold vw;rw[if_neg (by omega)];split<;>exact⟨_,_,rfl⟩
theorem H6:∀s,257≤s→s<285→vj (lenOf (s+1))≤vj (lenOf s)+2^wv (lenOf s):=by
 intro s h1 h2
 have:∀s<285,257≤s→vj (lenOf (s+1))≤vj (lenOf s)+2^wv (lenOf s):=by decide+kernel
 exact this s h2 h1
theorem FX:∀s,s<29→vj (vw (s+1))≤vj (vw s)+2^wv (vw s):=by decide+kernel
theorem xU {k : Nat} (h1 : 3 ≤ k) (h2 : k ≤ 258) : 257 ≤ xp k ∧ xp k ≤ 285 ∧ vj (lenOf (xp k)) ≤ k ∧ k < vj (lenOf (xp k)) + 2 ^ wv (lenOf (xp k)) := by
 have key:∀n s,s=257+n→s≤285→(s=285∨k<vj (lenOf (s+1)))→257≤yM lenOf k s∧yM lenOf k s≤285∧vj (lenOf (yM lenOf k s))≤k∧k<vj (lenOf (yM lenOf k s))+2^wv (lenOf (yM lenOf k s)):=by
  intro n
  induction n with
  | zero =>
    intro s hs h hk
    obtain rfl:s=257:=hs
    have e:yM lenOf k 257=257:=by rw[yM,if_pos (show vj (lenOf (256+1))≤k from h1)]
    have g:=H6 257 (by omega) (by omega)
    rw[e]
    refine⟨by omega,by omega,h1, ?_⟩
    rcases hk with q|q
    · omega
    · omega
  | succ n ih =>
    intro s hs h hk
    obtain⟨s,rfl⟩:∃t,s=t+1:=⟨s-1,by omega⟩
    by_cases c:vj (lenOf (s+1))≤k
    · rw [yM, if_pos c]
      refine⟨by omega,by omega,c, ?_⟩
      rcases hk with q|q
      · obtain rfl:s=284:=by omega
        have:vj (lenOf (284+1))=258:=rfl
        have:0<2^wv (lenOf (284+1)):=Nat.pow_pos (by omega)
        omega
      · by_cases c2:s+1=285
        · obtain rfl:s=284:=by omega
          have:vj (lenOf (284+1))=258:=rfl
          have:0<2^wv (lenOf (284+1)):=Nat.pow_pos (by omega)
          omega
        · have:=H6 (s+1) (by omega) (by omega);omega
    · rw[yM,if_neg c]
      exact ih s (by omega) (by omega) (.inr (by omega))
 exact key 28 285 (by omega) (by omega) (.inl rfl)
theorem xQ {k : Nat} (h1 : 1 ≤ k) (h2 : k ≤ 32768) : xI k ≤ 29 ∧ vj (vw (xI k)) ≤ k ∧ k < vj (vw (xI k)) + 2 ^ wv (vw (xI k)) := by
 have l0:vj (vw 0)=1:=rfl
 have key:∀s,s≤29→(s=29∨k<vj (vw (s+1)))→yM vw k s≤29∧vj (vw (yM vw k s))≤k∧k<vj (vw (yM vw k s))+2^wv (vw (yM vw k s)):=by
  intro s
  induction s with
  | zero =>
    intro h hk
    rw[yM]
    have g:=FX 0 (by omega)
    refine⟨by omega,by omega, ?_⟩
    rcases hk with q|q<;>omega
  | succ s ih =>
    intro h hk
    by_cases c:vj (vw (s+1))≤k
    · rw[yM,if_pos c]
      refine⟨by omega,c, ?_⟩
      by_cases c2:s+1=29
      · obtain rfl:s=28:=by omega
        have a1:vj (vw (28+1))=24577:=rfl
        have a2:2^wv (vw (28+1))=8192:=rfl
        omega
      · have:=FX (s+1) (by omega)
        rcases hk with q|q<;>omega
    · rw[yM,if_neg c]
      exact ih (by omega) (.inr (by omega))
 exact key 29 (by omega) (.inl rfl)
def IP (d:Nat):Nat→List Nat→List Nat
 |0,o=>o
 |n+1,o=>IP d n (o++[o.getD (o.length-d) 0])
theorem Cm (d:Nat):∀n o,(IP d n o).length=o.length+n
 |0,o=>rfl
 |n+1,o=>by rw[IP,Cm d n];simp;omega
def vG (o:List Nat) (t:Tok):List Nat:=if t.len=0 then o++[t.lit.toNat]else IP t.vL.toNat t.len.toNat o
def xn:List Tok→List Nat→List Nat
 |[],o=>o
 |t::r,o=>xn r (vG o t)
def yk (ts:List Tok):Option ByteArray:=if vy 0 ts=true then some (bytesOf (xn ts []))else none
def Nn:Option ByteArray→AV
 |some t=>.bK [.str t,.int .i64 0]
 |none=>.bK [.str ⟨#[]⟩,.int .i64 500]
def DI (ts:List Tok):Bool:=match yk ts with
 |some t=>decide (t.size≤300)
 |none=>false
theorem Co {p q:Prop} [Decidable p] [Decidable q] {α:Type} {a b:α} (h:p↔q):(if p then a else b)=if q then a else b:=by
 by_cases c:p
 · rw[if_pos c,if_pos (h.1 c)]
 · rw[if_neg c,if_neg (fun x=>c (h.2 x))]
def wH (p:Int×Int):List AV:=[.int .i64 p.1,.int .i64 p.2]
theorem yG (p:Int×Int):(wH p).length=2:=rfl
theorem JR {α:Type} {C:α→List AV} {n:Nat} (hC:∀x,(C x).length=n):∀(l:List α) (i:Nat) (x:α),i<l.length→setFrom (l.flatMap C) (i* n) (C x)=(l.set i x).flatMap C
 |[],i,x,h=>by simp at h
 | y :: l, 0, x, h => by
   have:=yn (C y) (C x) [] (l.flatMap C) (by rw[hC,hC])
   simpa using this
 | y :: l, i + 1, x, h => by
   have ih:=JR hC l i x (by simpa using h)
   rw[R1,List.set_cons_succ,R1,←ih]
   have e:=Bp hC l
   have:i<l.length:=by simpa using h
   have hi:i* n+n≤l.length* n:=by
    have:=uD n (show i+1≤l.length from this)
    rwa [Nat.succ_mul]at this
   have hs:(i+1)* n=n+i* n:=by rw[Nat.succ_mul];omega
   rw[Aq _ _ _ (by rw[uU,hC,hC,e,hs];omega),Aq _ _ _ (by rw[hC,e];omega),hs,hC]
   rw[List.take_append,List.drop_append,hC]
   rw[uP (by rw[hC];omega),List.drop_of_length_le (by rw[hC];omega)]
   rw[show n+i* n-n=i* n by omega,show n+i* n+n-n=i* n+n by omega]
   simp
def yz (l:List Int) (i:Nat):Int×Int:=if 1≤l.getD i 0 then(l.getD i 0,ve l (l.getD i 0).toNat+wK (l.take i) (l.getD i 0).toNat)else(0,0)
def uX (l:List Int):List (Int×Int):=(List.range l.length).map (yz l)
def wA (l:List Int) (b i:Nat):List (Int×Int):=(List.range l.length).map fun j=>if 1≤l.getD j 0∧(l.getD j 0<b∨(l.getD j 0=b∧j<i))then yz l j else(0,0)
theorem Bi (l:List Int) (b i:Nat):(wA l b i).length=l.length:=by simp [wA]
theorem IL {l:List Int} {b i:Nat} (hi:i<l.length) (hb:1≤b) (hl:l.getD i 0=(b:Int)):(wA l b i).set i ((b:Int),ve l b+wK (l.take i) b)=wA l b (i+1):=by
 apply List.ext_getElem?
 intro j
 rw[Sa]
 by_cases e:i=j
 · subst e
   rw[if_pos rfl,if_pos (by rw[Bi];exact hi)]
   simp only[wA,uJ,So hi,RZ]
   rw[if_pos ⟨by omega,.inr ⟨hl,by omega⟩⟩,yz,if_pos (by omega),hl];rfl
 · rw[if_neg e]
   simp only[wA,uJ]
   by_cases hj:j<l.length
   · rw[So hj]
     simp only[RZ]
     exact Sn some (Co (by omega))
   · rw[R8 (by simp;omega)];rfl
theorem G9 {l:List Int} {b i:Nat} (hl:¬l.getD i 0=(b:Int)):wA l b (i+1)=wA l b i:=by
 unfold wA
 refine Sp fun j hj=> ?_
 by_cases e:j=i
 · subst e
   exact Co (by omega)
 · exact Co (by omega)
theorem Ha (l:List Int) (b:Nat):wA l (b+1) 0=wA l b l.length:=by
 unfold wA
 refine Sp fun j hj=> ?_
 have hj':j<l.length:=List.mem_range.1 hj
 exact Co (by omega)
theorem IK {l:List Int} (hr:∀y∈l,0≤y∧y<16):wA l 16 0=uX l:=by
 unfold wA uX
 refine Sp fun j hj=> ?_
 have hj':j<l.length:=List.mem_range.1 hj
 have hm:=hr (l.getD j 0) (by rw[RT,RW hj'];simp)
 by_cases c:1≤l.getD j 0
 · rw[if_pos ⟨c,.inl (by omega)⟩]
 · rw[if_neg (fun q=>c q.1),yz,if_neg c]
theorem Hb (l:List Int):wA l 1 0=List.replicate l.length (0,0):=by
 unfold wA
 have:(List.range l.length).map (fun j=>if 1≤l.getD j 0∧(l.getD j 0<(1:Nat)∨(l.getD j 0=(1:Nat)∧j<0))then yz l j else((0:Int),(0:Int)))=(List.range l.length).map (fun _=>((0:Int),(0:Int))):=by
  refine Sp fun j hj=> ?_
  rw[if_neg (by omega)]
 rw[this,List.map_const',List.length_range]
theorem DG {l:List Int} {i:Nat} (hi:i<l.length) (b:Nat) (hb:1≤b):wK (l.take (i+1)) b=wK (l.take i) b+if l.getD i 0=(b:Int)then 1 else 0:=by
 have e:l.take (i+1)=l.take i++[l.getD i 0]:=by
  rw[List.take_add_one,RW hi,RT,RW hi];rfl
 rw[e,zf]
 congr 1
 by_cases c:l.getD i 0=(b:Int)
 · rw[if_pos ⟨by omega,c⟩,if_pos c]
 · rw[if_neg (fun q=>c q.2),if_neg c]
theorem Ak:∀E:List (Int×Int),E.flatMap wH=ints (E.flatMap fun p=>[p.1,p.2])
 |[]=>rfl
 |p::E=>by rw[R1,R1,ph,Ak E];rfl
theorem B7:∀n,yZ n [.int .i64 0,.int .i64 0]=(List.replicate n ((0:Int),(0:Int))).flatMap wH
 |0=>rfl
 | n + 1 => by
   have:=B7 n
   unfold yZ at *
   rw[dy,this,List.replicate_succ,R1];rfl
def zg (l:List Int):AV:=za 2 l.length ((uX l).flatMap wH)
def vC (l:List Int) (least:Nat):Nat→Nat
 |0=>least
 |i+1=>if i+1≤least then least else if 0<l.getD i 0 then i+1 else vC l least i
structure WX (h0 h:H) (w:Nat) (bs:List Nat) (ov:AV):Prop where
 wr:Wr h w bs ov
 ext:Ext h0 h
 lw:h0.next≤w
 ln:h0.next≤h.next
 lo:∀j,ov.id?=some j→h0.next≤j
theorem WX.step {h0 h h':H} {w:Nat} {bs bs':List Nat} {ov ov':AV} (x:WX h0 h w bs ov) (wr:Wr h' w bs' ov') (f:G0 h w ov h' ov'):WX h0 h' w bs' ov':=
 ⟨wr,fun i c hi=>by
  have:=h0.lt _ _ hi
  have:=x.ln
  have:=x.lw
  rw[f.vP i (by omega) (by omega) (fun q=>by have:=x.lo i q;omega),x.ext i c hi],x.lw,by have:=f.next;have:=x.ln;omega,fun j hj=>by
  rcases f.ids j hj with q|q
  · exact x.lo j q
  · have:=x.ln;omega⟩
theorem WX.turn {h0 h h':H} {w:Nat} {bs:List Nat} {ov:AV} (x:WX h0 h w bs ov) (hf:h'.floor=h.floor) (hn:h.next≤h'.next) (hk:∀i,i<h.next→h'.get i=h.get i):WX h0 h' w bs ov:=
 ⟨⟨by rw [hk w (h.lt _ _ x.wr.get), x.wr.get], x.wr.own.mono hf fun i q => hk i (x.wr.own.lt q).2, by rw [hf]; exact x.wr.fl, by rw [hf]; exact uS x.wr.Jo hn, x.wr.ne, x.wr.HN⟩,
   fun i c hi=>by have:=h0.lt _ _ hi;have:=x.ln;rw[hk i (by omega),x.ext i c hi],x.lw,uS x.ln hn,x.lo⟩
def Ay (E:List (Int×Int)) (s:Nat):Prop:=∃n v:Nat,E[s]?=some ((n:Int),(v:Int))∧1≤n∧n≤15∧v<2^n
def u7 (E:List (Int×Int)) (s:Nat):List Nat:=xX (E.getD s (0,0)).2.toNat (E.getD s (0,0)).1.toNat
theorem Ay.bits {E:List (Int×Int)} {s:Nat} (o:Ay E s):∃n v:Nat,E[s]?=some ((n:Int),(v:Int))∧1≤n∧n≤15∧v<2^n∧u7 E s=xX v n:=by
 obtain⟨n,v,h,h1,h2,h3⟩:=o
 refine⟨n,v,h,h1,h2,h3, ?_⟩
 unfold u7
 rw[RT,h];rfl
theorem Ay.lt {E:List (Int×Int)} {s:Nat} (o:Ay E s):s<E.length:=by
 obtain⟨n,v,h,_⟩:=o
 exact(uu.1 h).1
theorem yx.LZ {h:H} {v:AV} {E:List (Int×Int)} (r:yx 2 h v E.length (E.flatMap wH)):∃ad:Int→AV,
 (∀i:Int,0≤i∧i<E.length→fE 2 v (.int .i64 i)=some (ad i))∧
 ∀g:H,Ext h g→∀(i:Nat) (p:Int×Int),E[i]?=some p→bO true 2 (ad i) g=some (.agg [.int .i64 p.1,.int .i64 p.2]):=by
 obtain⟨ad,a1,a2,_,a3⟩:=r.at_
 refine⟨fun i=>ad i 0,a1,fun g hg i t ht=> ?_⟩
 obtain⟨b1,b2⟩:=a3 g hg
 have hi:i<E.length:=(uu.1 ht).1
 have hI:(0:Int)≤(i:Int)∧(i:Int)<E.length:=⟨by omega,by omega⟩
 have ti:((i:Int)).toNat=i:=by omega
 rw[b2 i hI,ti,EU yG ht];rfl
def vE (E D:List (Int×Int)) (t:Tok):List Nat:=
 if t.len=0 then u7 E t.lit.toNat
 else u7 E (xp t.len.toNat)++(vh (Af t.len.toNat) (zm t.len.toNat)++(u7 D (xI t.vL.toNat)++vh (AM t.vL.toNat) (zU t.vL.toNat)))
def vX (E D:List (Int×Int)) (ts:List Tok):List Nat:=ts.flatMap (vE E D)
def GY (E D:List (Int×Int)) (t:Tok):Prop:=
 (t.len=0∧0≤t.lit∧Ay E t.lit.toNat)∨(3≤t.len∧t.len≤258∧1≤t.vL∧t.vL≤32768∧Ay E (xp t.len.toNat)∧Ay D (xI t.vL.toNat))
theorem EZ {k:Nat} (h1:3≤k) (h2:k≤258):zm k≤5∧Af k<2^zm k:=by
 obtain⟨a1,a2,a3,a4⟩:=xU h1 h2
 obtain⟨a,b,hab⟩:=Ae a1 a2
 have:=C6 hab
 refine⟨by unfold zm;rw[hab];show b≤5;omega, ?_⟩
 unfold Af zm;omega
theorem ER {k:Nat} (h1:1≤k) (h2:k≤32768):zU k≤13∧AM k<2^zU k:=by
 obtain⟨a2,a3,a4⟩:=xQ h1 h2
 obtain⟨a,b,hab⟩:=zh a2
 have:=Bl hab
 refine⟨by unfold zU;rw[hab];show b≤13;omega, ?_⟩
 unfold AM zU;omega
theorem Ce {E D:List (Int×Int)} {t:Tok} (o:GY E D t):(vE E D t).length≤48:=by
 rcases o with ⟨h1,h2,h3⟩|⟨h1,h2,h3,h4,h5,h6⟩
 · obtain⟨n,v,_,q1,q2,q3,q4⟩:=h3.bits
   rw[vE,if_pos h1,q4,wc];omega
 · obtain⟨n,v,_,q1,q2,q3,q4⟩:=h5.bits
   obtain⟨n',v',_,q1',q2',q3',q4'⟩:=h6.bits
   have l:=EZ (k:=t.len.toNat) (by omega) (by omega)
   have d:=ER (k:=t.vL.toNat) (by omega) (by omega)
   rw[vE,if_neg (by omega),q4,q4']
   simp only[uU,wc,vh,vt];omega
theorem EC {E D:List (Int×Int)}:∀{ts:List Tok},(∀t∈ts,GY E D t)→(vX E D ts).length≤48* ts.length
 |[],_=>by simp [vX]
 | t :: ts, h => by
   have a:=Ce (h t (by simp))
   have b:=EC (E:=E) (D:=D) (ts:=ts) fun u hu=>h u (by simp [hu])
   unfold vX at *
   simp only[R1,uU,RU];omega
structure Ro (h:H) (f:Nat) (vs:List AV) (cs:List (List AV)):Prop where
 get:h.get f=some vs
 own:∀(i:Nat) (v:AV) (c:List AV),vs[i]?=some v→cs[i]?=some c→vY 1 h v c.length c
 len:vs.length=cs.length
 ne:∀(i:Nat) (v:AV),vs[i]?=some v→v.id?≠some f
 KS:∀(i j:Nat) (v u:AV),i≠j→vs[i]?=some v→vs[j]?=some u→∀id,v.id?=some id→u.id?≠some id
 fl:h.floor≤f
 Jo:h.floor≤h.next
structure Lo (h h':H):Prop where
 floor:h'.floor=h.floor
 next:h.next≤h'.next
 vP:∀i,i<h.floor→h'.get i=h.get i
theorem Lo.refl (h:H):Lo h h:=⟨rfl,uy _,fun _ _=>rfl⟩
theorem Lo.trans {a b c:H} (x:Lo a b) (y:Lo b c):Lo a c:=⟨y.floor.trans x.floor,uS x.next y.next,fun i hi=>(y.vP i (by rw[x.floor];exact hi)).trans (x.vP i hi)⟩
theorem Ext.lo {h0 a b:H} (x:Ext h0 a) (y:Lo a b) (hf:a.floor=h0.next):Ext h0 b:=fun i c hi=>by
 rw[y.vP i (by rw[hf];exact h0.lt _ _ hi),x i c hi]
theorem Ro.push {h : H} {f : Nat} {vs : List AV} {cs : List (List AV)} (r : Ro h f vs cs) (k : Nat) {v : AV} {c : List AV} (hv : vs[k]? = some v) (hc : cs[k]? = some c) (x : AV) (sc : x.sc = true) {z : Nat} (hz : roomy z (c.length + 1) = true) :
 ∃v' h1,kg (h.alloc [x]) 1 z v (.aE h.next 0 1 1)=some (v',h1)∧h1.get f=some vs∧h1.floor=h.floor∧Ro (h1.set f (vs.set k v')) f (vs.set k v') (cs.set k (c++[x]))∧Lo h (h1.set f (vs.set k v')):=by
 have o:=r.own k v c hv hc
 have hfl:=h.lt _ _ r.get
 obtain⟨v',h1,p1,p2,p3,p4,p5,p6⟩:=o.push r.Jo (z:=z) (m:=1) (by omega) (by omega) [x] rfl (by simp [AV.aC,sc]) hz
 have hk:k<vs.length:=(uu.1 hv).1
 have gf:h1.get f=some vs:=by rw[p5 f (r.ne k v hv) hfl,r.get]
 have key:∀(i:Nat) (u:AV),(vs.set k v')[i]?=some u→(i=k∧u=v')∨(i≠k∧vs[i]?=some u):=by
  intro i u hu
  by_cases e:k=i
  · subst e
    rw[Sa,if_pos rfl,if_pos hk]at hu
    exact .inl ⟨rfl,(uh hu).symm⟩
  · rw[Sa,if_neg e]at hu
    exact .inr ⟨fun q=>e q.symm,hu⟩
 have hZ:∀(i:Nat) (u:AV),vs[i]?=some u→∀id,u.id?=some id→id<h.next:=by
  intro i u hu id hid
  have hi:i<cs.length:=by rw[←r.len];exact(uu.1 hu).1
  exact((r.own i u _ hu (RW hi)).lt hid).2
 refine⟨v',h1,p1,gf,p3,⟨?_, ?_, ?_, ?_, ?_, ?_, ?_⟩,⟨by simp [p3],by simp;omega, ?_⟩⟩
 · rw[vq rfl,gf];rfl
 · intro i u d hu hd
   rcases key i u hu with ⟨rfl,rfl⟩|⟨hne,hu⟩
   · rw[Sa,if_pos rfl,if_pos (by rw[←r.len];exact hk)]at hd
     obtain rfl:=uh hd
     have:(c++[x]).length=c.length+1:=by simp
     rw[this]
     exact p2.mono (by simp) fun j hj=>by rw[uY];rw[p6]at hj;have:=uh hj;omega
   · rw[Sa,if_neg (fun q=>hne q.symm)]at hd
     exact(r.own i u d hu hd).mono (by simp [p3]) fun j hj=>by
      rw[uY (fun q=>r.ne i u hu (by rw[hj,q])),p5 j (fun q=>r.KS i k u v hne hu hv j hj q) (hZ i u hu j hj)]
 · simp [r.len]
 · intro i u hu
   rcases key i u hu with ⟨rfl,rfl⟩|⟨hne,hu⟩
   · rw[p6];intro q;have:=uh q;omega
   · exact r.ne i u hu
 · intro i j u w hij hu hw id hid
   rcases key i u hu with ⟨e1,e2⟩|⟨hne,hu2⟩
   · rcases key j w hw with ⟨e3,e4⟩|⟨hne2,hw2⟩
     · exact absurd (e1.trans e3.symm) hij
     · intro q;have:=hZ j w hw2 id q;rw[e2,p6]at hid;have:=uh hid;omega
   · rcases key j w hw with ⟨e3,e4⟩|⟨hne2,hw2⟩
     · intro q;have:=hZ i u hu2 id hid;rw[e4,p6]at q;have:=uh q;omega
     · exact r.KS i j u w hij hu2 hw2 id hid
 · simpa [p3]using r.fl
 · simp [p3];have:=r.Jo;omega
 · intro i hi
   have:=r.fl
   rw[uY (by omega),p5 i (fun q=>by have:=(o.lt q).1;omega) (by have:=r.Jo;omega)]
theorem Ro.put {h:H} {f:Nat} {vs:List AV} {cs:List (List AV)} (r:Ro h f vs cs) (k i:Nat) {v:AV} {c:List AV} (hv:vs[k]?=some v) (hc:cs[k]?=some c) (x:AV) (sc:x.sc=true) (hi:i<c.length):
 ∃id,v=.aE id 0 c.length 1∧h.get id=some c∧h.floor≤id∧id≠f∧(∀(j:Nat) (u:AV),j≠k→vs[j]?=some u→u.id?≠some id)∧Ro (h.set id (c.set i x)) f vs (cs.set k (c.set i x))∧Lo h (h.set id (c.set i x)):=by
 have o:=r.own k v c hv hc
 rcases o.2 with ⟨_,q⟩|⟨id,q1,q2,q3,q4⟩
 · omega
 have hid:v.id?=some id:=by rw[q1];rfl
 have hne:id≠f:=fun q=>r.ne k v hv (by rw[hid,q])
 have hk:k<vs.length:=(uu.1 hv).1
 refine⟨id,q1,q2,q3,hne,fun j u hj hu q=>r.KS j k u v hj hu hv id q hid,⟨?_, ?_, ?_,r.ne,r.KS,by simpa using r.fl,by simpa using r.Jo⟩,⟨by simp,by simp,fun j hj=>by rw[uY (by omega)]⟩⟩
 · rw[uY hne.symm,r.get]
 · intro j u d hu hd
   by_cases e:k=j
   · subst e
     rw[hv]at hu
     obtain rfl:=uh hu
     rw[Sa,if_pos rfl,if_pos (by rw[←r.len];exact hk)]at hd
     obtain rfl:=uh hd
     have lc:(c.set i x).length=c.length:=Sg
     rw[lc]
     exact⟨by omega,.inr ⟨id,q1,by rw[vq rfl,q2];rfl,by simpa using q3,q4⟩⟩
   · rw[Sa,if_neg e]at hd
     exact(r.own j u d hu hd).mono (by simp) fun m hm=>by rw[uY];intro q;subst q;exact r.KS j k u v (fun q=>e q.symm) hu hv m hm hid
 · simp [r.len]
def Rc (F:List Bool):List AV:=F.map .bool
abbrev Rf (W U:List Int) (F:List Bool):List (List AV):=[ints W,ints U,Rc F]
theorem vY.cells {n:Nat} {h:H} {v:AV} {k:Nat} {cs:List AV} (o:vY n h v k cs):v.cells=[v]:=by
 rcases o.2 with ⟨e,_⟩|⟨id,e,_⟩<;>rw[e]<;>rfl
def wL (W:List Int) (F:List Bool):Nat→Nat→Int→Int
 |0,_,a=>a
 |m+1,i,a=>wL W F m (i+1) (if F.getD i false=true∧(a<0∨W.getD i 0<W.getD a.toNat 0)then i else a)
def xj (W:List Int) (F:List Bool):Nat:=(wL W F W.length 0 (-1)).toNat
structure FS where
 W:List Int
 U:List Int
 F:List Bool
def FS.add (s:FS) (x:Int):FS:=⟨s.W++[x],s.U++[-1],s.F++[true]⟩
def FS.a (s:FS):Nat:=xj s.W s.F
def FS.F1 (s:FS):List Bool:=s.F.set s.a false
def FS.b (s:FS):Nat:=xj s.W s.F1
def FS.F2 (s:FS):List Bool:=s.F1.set s.b false
def FS.sum (s:FS):Int:=s.W.getD s.a 0+s.W.getD s.b 0
def FS.E0 (s:FS):FS:=FS.add ⟨s.W,(s.U.set s.a s.U.length).set s.b s.U.length,s.F2⟩ s.sum
structure FS.ok (s:FS):Prop where
 lu:s.U.length=s.W.length
 lf:s.F.length=s.W.length
 l1:0≤wL s.W s.F s.W.length 0 (-1)
 l2:0≤wL s.W s.F1 s.W.length 0 (-1)
 sm:0≤s.sum∧s.sum<1000000000000000
abbrev FS.C (s:FS):List (List AV):=Rf s.W s.U s.F
theorem xY (l:List Int) (i:Nat) (x:Int):(ints l).set i (.int .i64 x)=ints (l.set i x):=by simp [ints,List.map_set,I]
def FS.ya:Nat→FS→FS
 |0,s=>s
 |n+1,s=>FS.ya n s.E0
theorem FS.H7 (s:FS):s.E0.W.length=s.W.length+1:=by simp [FS.E0,FS.add]
theorem FS.A3:∀(n:Nat) (s:FS),(FS.ya n s).W.length=s.W.length+n
 |0,s=>rfl
 |n+1,s=>by rw[FS.ya,FS.A3 n,FS.H7];omega
def Cg (ws:List Int):FS:=⟨ws,List.replicate ws.length (-1),List.replicate ws.length true⟩
def BJ (U:List Int):Nat→Int→Nat
 |0,_=>0
 |m+1,j=>if 0≤j then BJ U m (U.getD j.toNat (-1))+1 else 0
def HI (U:List Int):Prop:=∀j:Nat,j<U.length→U.getD j (-1)= -1∨((j:Int)<U.getD j (-1)∧U.getD j (-1)<U.length)
def ES (U:List Int) (n:Nat):List Int:=(List.range n).map fun i=>((BJ U U.length (U.getD i (-1)):Nat):Int)
theorem JI (U:List Int) (n:Nat):(ES U n).length=n:=by simp [ES]
def vi (ws:List Int):List Int:=ES (FS.ya (ws.length-1) (Cg ws)).U ws.length
def Jp (u v:AV):Prop:=∀j,u.id?=some j→v.id?≠some j
theorem Jp.symm {u v:AV} (a:Jp u v):Jp v u:=fun j h q=>a j q h
def u6:Nat→List Int→List Int
 |_,[]=>[]
 |i,c::r=>if 0<c then(i:Int)::u6 (i+1) r else u6 (i+1) r
def u9:List Int→List Int
 |[]=>[]
 |c::r=>if 0<c then c::u9 r else u9 r
theorem vY.yN {h:H} {v:AV} {cs:List AV} (o:vY 1 h v cs.length cs):Rd h v cs:=⟨o.rd.1,o.rd.2.2⟩
def vI:List Int→List Int→List Int→List Int
 |s::ss,d::ds,o=>vI ss ds (o.set s.toNat d)
 |_,_,o=>o
theorem wx:∀(ss ds o:List Int),(vI ss ds o).length=o.length
 |[],_,o=>by simp [vI]
 |s::ss,[],o=>by simp [vI]
 |s::ss,d::ds,o=>by rw[vI,wx ss ds,Sg]
def Ag:List Int→Int→Int
 |[],m=>m
 |d::ds,m=>Ag ds (Da m d)
theorem Ext.Im {hb h:H} {o:Nat} (x:Ext hb h) (hn:hb.get o=none) (c:List AV):Ext hb (h.set o c):=fun i d q=>by
 have:i≠o:=fun e=>by rw[e,hn]at q;cases q
 rw[uY this,x i d q]
def yl (w:Int):Int:=(w+1)/2
def v8 (ws:List Int):List Int:=ws.map yl
theorem zJ (ws:List Int):(v8 ws).length=ws.length:=by simp [v8]
def H8 (ws:List Int):Prop:=ws=[]∨(1≤ws.length∧ws.length≤288∧(∀k,k<ws.length-1→(FS.ya k (Cg ws)).ok)∧HI (FS.ya (ws.length-1) (Cg ws)).U∧(FS.ya (ws.length-1) (Cg ws)).U.length=(FS.ya (ws.length-1) (Cg ws)).W.length)
theorem Iu (U:List Int):∀(m:Nat) (j:Int),BJ U m j≤m
 |0,j=>uy _
 | m + 1, j => by
   rw[BJ]
   split
   · have:=Iu U m (U.getD j.toNat (-1));omega
   · omega
theorem FV {ws:List Int} (o:H8 ws):∀d∈vi ws,0≤d∧d<1000:=by
 intro d hd
 rcases o with rfl|⟨h1,h2,_,_,h5⟩
 · simp [vi,ES]at hd
 · unfold vi ES at hd
   obtain⟨i,_,rfl⟩:=R4.1 hd
   have:=Iu (FS.ya (ws.length-1) (Cg ws)).U (FS.ya (ws.length-1) (Cg ws)).U.length ((FS.ya (ws.length-1) (Cg ws)).U.getD i (-1))
   rw[h5,FS.A3]at this
   rw[h5,FS.A3]
   have:(Cg ws).W.length=ws.length:=rfl
   omega
theorem wm (ws:List Int):(vi ws).length=ws.length:=JI _ _
def ym (S:List Int):Nat→List Int→List Int→List Int
 |0,W,O=>vI S (vi W) O
 |K+1,W,O=>ym S K (v8 W) (vI S (vi W) O)
theorem Jr {h:H} {v:AV} {k:Nat} {cs:List AV} (o:vY 1 h v k cs) (hk:0<k):∃id,v=.aE id 0 k 1∧h.get id=some cs∧h.floor≤id:=by
 rcases o.2 with ⟨_,q⟩|⟨id,q1,q2,q3,_⟩
 · omega
 · exact⟨id,q1,q2,q3⟩
inductive wP (most:Int):Nat→List Int→Prop
 |last {W:List Int}:H8 W→Ag (vi W) 0≤most→wP most 0 W
 |more {K:Nat} {W:List Int}:H8 W→most<Ag (vi W) 0→W≠[]→wP most K (v8 W)→wP most (K+1) W
def A8 (S:List Int):List Int:=if S.length=1 then(if 0<S.getD 0 0 then [0,S.getD 0 0]else S++[1])else S
def Hu (S W:List Int):List Int:=if S.length=1 then(if 0<S.getD 0 0 then [1,W.getD 0 0]else W++[1])else W
theorem Lz {S W:List Int} (h:W.length=S.length):(Hu S W).length=(A8 S).length:=by
 unfold Hu A8
 split
 · split
   · rfl
   · simp [h]
 · exact h
theorem vD:∀(i:Nat) (C:List Int),(u6 i C).length=(u9 C).length
 |i,[]=>rfl
 | i, c :: r => by
   rw[u6,u9]
   split
   · simp [vD (i+1) r]
   · exact vD (i+1) r
theorem wy:∀(i:Nat) (C:List Int),(u6 i C).length≤C.length
 |i,[]=>uy _
 | i, c :: r => by
   have:=wy (i+1) r
   rw[u6]
   split<;>simp<;>omega
theorem wT:∀(i:Nat) (C:List Int),∀s∈u6 i C,(i:Int)≤s∧s<i+C.length
 |i,[],s,h=>by simp [u6]at h
 | i, c :: r, s, h => by
   rw[u6]at h
   split at h
   · rcases uR.1 h with q|q
     · subst q;simp;omega
     · have:=wT (i+1) r s q;simp only[RU];omega
   · have:=wT (i+1) r s h;simp only[RU];omega
theorem xV:∀(C:List Int),∀y∈u9 C,y∈C∧0<y
 |[],y,h=>by simp [u9]at h
 | c :: r, y, h => by
   rw[u9]at h
   split at h
   · rcases uR.1 h with q|q
     · subst q;exact⟨by simp,by assumption⟩
     · have:=xV r y q;exact⟨by simp [this.1],this.2⟩
   · have:=xV r y h;exact⟨by simp [this.1],this.2⟩
theorem Kc {S : List Int} {n : Nat} (hn : 2 ≤ n) (h : ∀ s ∈ S, 0 ≤ s ∧ s < n) : ∀ s ∈ A8 S, 0 ≤ s ∧ s < n := by
 intro s hs
 unfold A8 at hs
 split at hs
 · split at hs
   · rename_i h1 h2
     rcases uR.1 hs with q|q
     · subst q;omega
     · simp at q
       subst q
       match S,h1 with
       |[t],_=>exact h t (by simp)
   · rcases Sj.1 hs with q|q
     · exact h s q
     · simp at q;subst q;omega
 · exact h s hs
theorem Gz {S:List Int} {n:Nat} (hn:2≤n) (h:S.length≤n):(A8 S).length≤n:=by
 unfold A8
 split
 · split
   · simpa using hn
   · simp;omega
 · exact h
theorem yX (n:Nat):yZ n [.int .i64 0]=ints (List.replicate n 0):=by
 unfold yZ;rw[Fl];simp [ints,I]
def wo (C:List Int):List Int:=A8 (u6 0 C)
def wG (C:List Int):List Int:=Hu (u6 0 C) (u9 C)
theorem Hm (C:List Int):(wG C).length=(wo C).length:=Lz (vD 0 C).symm
def vV (C:List Int) (K:Nat):List Int:=ym (wo C) K (wG C) (List.replicate C.length 0)
theorem C4 (W : List Int) (F : List Bool) : ∀ (m i : Nat) (a : Int), (a = -1 ∧ (∀ j, j < i → F.getD j false = false)) ∨ (∃ k : Nat, a = k ∧ k < i ∧ F.getD k false = true ∧ ∀ j, j < i → F.getD j false = true → W.getD k 0 ≤ W.getD j 0) →
 (wL W F m i a= -1∧(∀j,j<i+m→F.getD j false=false))∨(∃k:Nat,wL W F m i a=k∧k<i+m∧F.getD k false=true∧∀j,j<i+m→F.getD j false=true→W.getD k 0≤W.getD j 0)
 |0,i,a,h=>by simpa [wL]using h
 | m + 1, i, a, h => by
   rw[wL]
   have e:i+(m+1)=i+1+m:=by omega
   rw[e]
   refine C4 W F m (i+1) _ ?_
   by_cases c:F.getD i false=true∧(a<0∨W.getD i 0<W.getD a.toNat 0)
   · rw [if_pos c]
     refine .inr ⟨i,rfl,by omega,c.1,fun j hj hf=> ?_⟩
     by_cases q:j=i
     · subst q;exact Ss _
     · rcases h with ⟨_,h2⟩|⟨k,rfl,h1,h2,h3⟩
       · rw[h2 j (by omega)]at hf;cases hf
       · have:=h3 j (by omega) hf
         have tk:((k:Nat):Int).toNat=k:=by omega
         rw[tk]at c
         have:=c.2
         omega
   · rw [if_neg c]
     rcases h with ⟨rfl,h2⟩|⟨k,rfl,h1,h2,h3⟩
     · refine .inl ⟨rfl,fun j hj=> ?_⟩
       by_cases q:j=i
       · subst q
         cases e:F.getD j false with
         |false=>rfl
         |true=>exact absurd ⟨e,.inl (by omega)⟩ c
       · exact h2 j (by omega)
     · refine .inr ⟨k,rfl,by omega,h2,fun j hj hf=> ?_⟩
       by_cases q:j=i
       · subst q
         have tk:((k:Nat):Int).toNat=k:=by omega
         rw[tk]at c
         have:¬(W.getD j 0<W.getD k 0):=fun x=>c ⟨hf,.inr x⟩
         omega
       · exact h3 j (by omega) hf
theorem Ad {W:List Int} {F:List Bool} (hl:F.length=W.length) {i:Nat} (hi:F.getD i false=true):0≤wL W F W.length 0 (-1)∧xj W F<W.length∧F.getD (xj W F) false=true∧∀j,F.getD j false=true→W.getD (xj W F) 0≤W.getD j 0:=by
 have hiL:∀j,F.getD j false=true→j<F.length:=by
  intro j hj
  rw[RT]at hj
  cases e:F[j]? with
  |none=>rw[e]at hj;cases hj
  |some b=>exact(uu.1 e).1
 rcases C4 W F W.length 0 (-1) (.inl ⟨rfl,fun j hj=>by omega⟩)with ⟨_,h2⟩|⟨k,h1,h2,h3,h4⟩
 · have:=h2 i (by have:=hiL i hi;omega)
   rw[hi]at this;cases this
 · have ek:xj W F=k:=by unfold xj;rw[h1];omega
   rw[ek]
   exact⟨by omega,by omega,h3,fun j hj=>h4 j (by have:=hiL j hj;omega) hj⟩
def LG (U:List Int):Nat→Nat→Nat→Prop
 |0,i,r=>i=r
 |d+1,i,r=>∃j:Nat,U[i]?=some (j:Int)∧LG U d j r
theorem Dj {U:List Int}:∀{d i r:Nat} {j:Nat},LG U d i r→U[r]?=some (j:Int)→LG U (d+1) i j
 | 0, i, r, j, h, hj => by
   have:i=r:=h
   subst this
   exact⟨j,hj,rfl⟩
 |d+1,i,r,j,⟨k,h1,h2⟩,hj=>⟨k,h1,Dj h2 hj⟩
theorem Fi {U:List Int} (up:HI U):∀{d i r:Nat},LG U d i r→U.getD r (-1)= -1→∀m,d≤m→BJ U m (U.getD i (-1))=d
 | 0, i, r, h, hr, m, hm => by
   have:i=r:=h
   subst this
   rw[hr]
   cases m with
   |zero=>rfl
   |succ m=>rw[BJ,if_neg (by omega)]
 | d + 1, i, r, ⟨j, h1, h2⟩, hr, m, hm => by
   obtain⟨m,rfl⟩:∃k,m=k+1:=⟨m-1,by omega⟩
   have e:U.getD i (-1)=(j:Int):=by rw[RT,h1];rfl
   rw[e,BJ,if_pos (by omega)]
   have tj:((j:Nat):Int).toNat=j:=by omega
   rw[tj,Fi up h2 hr m (by omega)]
theorem Fh {U:List Int} (up:HI U):∀{d i r:Nat},LG U d i r→i+d≤r
 | 0, i, r, h => by
   have:i=r:=h
   omega
 | d + 1, i, r, ⟨j, h1, h2⟩ => by
   have:=Fh up h2
   have hi:=(uu.1 h1).1
   have e:U.getD i (-1)=(j:Int):=by rw[RT,h1];rfl
   have:=up i hi
   rw[e]at this
   omega
def xZ (U:List Int) (a b:Nat):List Int:=(U.set a U.length).set b U.length++[-1]
theorem D9 (U:List Int) (a b:Nat):(xZ U a b).length=U.length+1:=by simp [xZ]
theorem Bw {U:List Int} {a b i:Nat} (hi:i<U.length) (ha:a≠i) (hb:b≠i):(xZ U a b)[i]?=U[i]?:=by
 unfold xZ
 rw[R5 (by simpa using hi),Sa,if_neg hb,Sa,if_neg ha]
theorem H2 {U:List Int} {a b:Nat} (ha:a<U.length):(xZ U a b)[a]?=some (U.length:Int):=by
 unfold xZ
 rw[R5 (by simpa using ha),Sa]
 split
 · rename_i e;subst e;simp [ha]
 · rw[Sa,if_pos rfl,if_pos ha]
theorem H3 {U:List Int} {a b:Nat} (hb:b<U.length):(xZ U a b)[b]?=some (U.length:Int):=by
 unfold xZ
 rw[R5 (by simpa using hb),Sa,if_pos rfl,if_pos (by simpa using hb)]
theorem H4 {U:List Int} {a b:Nat}:(xZ U a b)[U.length]?=some (-1):=by
 unfold xZ
 rw[R6 (by simp)];simp
theorem A9 {U:List Int} {a b:Nat} (ha:U[a]?=some (-1)) (hb:U[b]?=some (-1)):∀{d i r:Nat},LG U d i r→LG (xZ U a b) d i r
 |0,i,r,h=>h
 | d + 1, i, r, ⟨j, h1, h2⟩ => by
   refine⟨j, ?_,A9 ha hb h2⟩
   rw[Bw (uu.1 h1).1 (fun e=>by rw[e,h1]at ha;have:=uh ha;omega) (fun e=>by rw[e,h1]at hb;have:=uh hb;omega),h1]
theorem Jl {U : List Int} {a b : Nat} (ha : a < U.length) (hb : b < U.length) (up : HI U) : HI (xZ U a b) := by
 intro j hj
 rw[D9]at hj ⊢
 by_cases e:j=U.length
 · subst e
   left
   rw[RT,H4];rfl
 · by_cases ea:a=j
   · subst ea
     right
     rw[RT,H2 ha]
     simp;omega
   · by_cases eb:b=j
     · subst eb
       right
       rw[RT,H3 hb]
       simp;omega
     · have:=up j (by omega)
       rw[RT,Bw (by omega) ea eb,←RT]
       omega
theorem FS.Qm (s:FS):s.E0.U=xZ s.U s.a s.b:=rfl
abbrev Tr:=Nat×List (Nat×Nat)
def kr (D:Nat) (l:List (Nat×Nat)):Nat:=(l.map fun p=>2^(D-p.2)).sum
structure yq (bal:Bool) (n:Nat) (tot:Int) (s:FS) (T:List Tr):Prop where
 lu:s.U.length=s.W.length
 lf:s.F.length=s.W.length
 root:∀t∈T,s.F.getD t.1 false=true∧s.U[t.1]?=some (-1)
 free:∀i,s.F.getD i false=true→∃t∈T,t.1=i
 nd:(T.map (·.1)).Nodup
 pt:∀t∈T,∀p∈t.2,LG s.U p.2 p.1 t.1
 leaves:(T.flatMap fun t=>t.2.map (·.1)).Perm (List.range n)
 CZ:∀t∈T,∀D,(∀p∈t.2,p.2≤D)→kr D t.2=2^D
 ne:∀t∈T,t.2≠[]
 HJ:∀t∈T,1≤s.W.getD t.1 0
 up:HI s.U
 sum:(T.map fun t=>s.W.getD t.1 0).sum=tot
 K0:bal=true→∀t∈T,∀u∈T,s.W.getD t.1 0≤2* s.W.getD u.1 0
 IF:bal=true→∀t∈T,∀p∈t.2,(3:Int)^p.2≤s.W.getD t.1 0* 2^p.2
theorem Jc {l l':List Int} (p:l.Perm l'):l.sum=l'.sum:=by
 induction p with
 |nil=>rfl
 |cons x _ ih=>simp only[Sl,ih]
 |swap x y l=>simp only[Sl];omega
 |trans _ _ h1 h2=>exact h1.trans h2
theorem En {l l':List Nat} (p:l.Perm l'):l.sum=l'.sum:=by
 induction p with
 |nil=>rfl
 |cons x _ ih=>simp only[Sl,ih]
 |swap x y l=>simp only[Sl];omega
 |trans _ _ h1 h2=>exact h1.trans h2
theorem yq.perm {bal:Bool} {n:Nat} {tot:Int} {s:FS} {T T':List Tr} (v:yq bal n tot s T) (p:T.Perm T'):yq bal n tot s T' where
 lu:=v.lu
 lf:=v.lf
 root t h:=v.root t (p.mem_iff.2 h)
 free i h:=by
  obtain⟨t,h1,h2⟩:=v.free i h
  exact⟨t,p.mem_iff.1 h1,h2⟩
 nd:=(p.map _).nodup_iff.1 v.nd
 pt t h:=v.pt t (p.mem_iff.2 h)
 leaves:=((p.flatMap_right _).symm).trans v.leaves
 CZ t h:=v.CZ t (p.mem_iff.2 h)
 ne t h:=v.ne t (p.mem_iff.2 h)
 HJ t h:=v.HJ t (p.mem_iff.2 h)
 up:=v.up
 sum:=by rw[←v.sum];exact(Jc (p.map _)).symm
 K0 hb t h u h2:=v.K0 hb t (p.mem_iff.2 h) u (p.mem_iff.2 h2)
 IF hb t h:=v.IF hb t (p.mem_iff.2 h)
def xq (l:List (Nat×Nat)):List (Nat×Nat):=l.map fun p=>(p.1,p.2+1)
theorem I0 {D:Nat} {l:List (Nat×Nat)}:kr (D+1) (xq l)=kr D l:=by
 unfold kr xq
 rw[List.map_map]
 congr 1
 refine Sp fun p _=> ?_
 show 2^(D+1-(p.2+1))=_
 rw[Nat.add_sub_add_right]
theorem On (D:Nat) (a b:List (Nat×Nat)):kr D (a++b)=kr D a+kr D b:=by simp [kr]
theorem getD_set_ne {α:Type} {l:List α} {i j:Nat} {x d:α} (h:i≠j):(l.set i x).getD j d=l.getD j d:=by
 rw[RT,Sa,if_neg h,←RT]
theorem yT {l:List Bool} {i:Nat}:(l.set i false).getD i false=false:=by
 rw[RT,Sa,if_pos rfl]
 split<;>rfl
theorem yq.two {bal:Bool} {n:Nat} {tot:Int} {s:FS} {T:List Tr} (v:yq bal n tot s T) (h2:2≤T.length):
 ∃ta tb T2,T.Perm (ta::tb::T2)∧ta.1=s.a∧tb.1=s.b∧0≤wL s.W s.F s.W.length 0 (-1)∧0≤wL s.W s.F1 s.W.length 0 (-1)∧s.W.getD s.a 0≤s.W.getD s.b 0∧(∀t∈T2,s.W.getD s.b 0≤s.W.getD t.1 0):=by
 obtain⟨t0,t1,T0,rfl⟩:∃t0 t1 T0,T=t0::t1::T0:=by
  match T,h2 with
  |t0::t1::T0,_=>exact⟨t0,t1,T0,rfl⟩
 obtain⟨l1,la,fa,ma⟩:=Ad v.lf (v.root t0 (by simp)).1
 obtain⟨ta,hta,ea⟩:=v.free _ fa
 have p1:=List.perm_cons_erase hta
 have v1:=v.perm p1
 obtain⟨T1,eT1⟩:∃T1,T1=(t0::t1::T0).erase ta:=⟨_,rfl⟩
 rw[←eT1]at p1 v1
 have lT1:T1≠[]:=by
  intro e
  have:=p1.length_eq
  rw[e]at this
  simp at this
 obtain⟨tx,hx⟩:=List.exists_mem_of_ne_nil _ lT1
 have nd1:∀t∈T1,t.1≠ta.1:=by
  intro t ht e
  have:=v1.nd
  rw[R3,Sz]at this
  exact this.1 (R4.2 ⟨t,ht,e⟩)
 have f1:∀t∈T1,s.F1.getD t.1 false=true:=by
  intro t ht
  have:=(v1.root t (by simp [ht])).1
  show(s.F.set s.a false).getD t.1 false=true
  rw[getD_set_ne (by have:=nd1 t ht;intro e;exact this (by rw[ea,←e];rfl)),this]
 obtain⟨l2,lb,fb,mb⟩:=Ad (W:=s.W) (F:=s.F1) (by show(s.F.set s.a false).length=_;rw[Sg];exact v.lf) (f1 tx hx)
 have hnb:s.a≠s.b:=by
  intro e
  have fb':s.F1.getD s.b false=true:=fb
  rw[←e]at fb'
  have:(s.F.set s.a false).getD s.a false=true:=fb'
  rw[yT]at this;cases this
 have fb2:s.F.getD s.b false=true:=by
  have fb':(s.F.set s.a false).getD s.b false=true:=fb
  rwa [getD_set_ne hnb]at fb'
 obtain⟨tb,htb,eb⟩:=v1.free _ fb2
 have htb1:tb∈T1:=by
  rcases uR.1 htb with q|q
  · subst q;exact absurd (ea.symm.trans eb) hnb
  · exact q
 have p2:=List.perm_cons_erase htb1
 refine⟨ta,tb,T1.erase tb,p1.trans (p2.cons ta),ea,eb,l1,l2,ma _ fb2,fun t ht=>mb _ (f1 t (List.mem_of_mem_erase ht))⟩
theorem yq.KG {bal : Bool} {n : Nat} {tot : Int} {s : FS} {T T2 : List Tr} {ta tb : Tr} (v : yq bal n tot s T) (p : T.Perm (ta :: tb :: T2)) (ea : ta.1 = s.a) (eb : tb.1 = s.b) (l1 : 0 ≤ wL s.W s.F s.W.length 0 (-1)) (l2 : 0 ≤ wL s.W s.F1 s.W.length 0 (-1)) (wab : s.W.getD s.a 0 ≤ s.W.getD s.b 0) (wbt : ∀ t ∈ T2, s.W.getD s.b 0 ≤ s.W.getD t.1 0) (ht : tot < 1000000000000000) : s.ok ∧ yq bal n tot s.E0 ((s.U.length, xq (ta.2 ++ tb.2)) :: T2) := by
 have lT:=p.length_eq
 have v1:=v.perm p
 have nd:=v1.nd
 rw[R3,R3,Sz,Sz]at nd
 obtain⟨nd1,nd2,nd3⟩:=nd
 have ra:=v1.root ta (by simp)
 have rb:=v1.root tb (by simp)
 rw[ea]at ra
 rw[eb]at rb
 have hla:s.a<s.U.length:=(uu.1 ra.2).1
 have hlb:s.b<s.U.length:=(uu.1 rb.2).1
 have wa:=v1.HJ ta (by simp)
 have wb1:=v1.HJ tb (by simp)
 rw[ea]at wa
 rw[eb]at wb1
 have sm:=v1.sum
 rw[R3,R3,Sl,Sl,ea,eb]at sm
 have nn:0≤(T2.map fun t=>s.W.getD t.1 0).sum:=by
  have:∀l:List Tr,(∀t∈l,1≤s.W.getD t.1 0)→0≤(l.map fun t=>s.W.getD t.1 0).sum:=by
   intro l
   induction l with
   |nil=>intro _;simp
   |cons x l ih=>intro h;have:=ih fun t ht=>h t (by simp [ht]);have:=h x (by simp);simp only[R3,Sl];omega
  exact this T2 fun t ht=>v1.HJ t (by simp [ht])
 have es:s.sum=s.W.getD s.a 0+s.W.getD s.b 0:=rfl
 refine⟨⟨v.lu,v.lf,l1,l2,by omega⟩, ?_⟩
 have nT2:∀t∈T2,t.1≠s.a∧t.1≠s.b∧t.1<s.U.length:=fun t ht=>⟨fun e=>nd1 (by simp only[uR,R4];exact .inr ⟨t,ht,by rw[e,ea]⟩),fun e=>nd2 (R4.2 ⟨t,ht,by rw[e,eb]⟩),(uu.1 (v1.root t (by simp [ht])).2).1⟩
 have mW:∀i,i<s.W.length→s.E0.W.getD i 0=s.W.getD i 0:=fun i hi=>by
  show(s.W++[s.sum]).getD i 0=_
  rw[RT,R5 hi,←RT]
 have mWn:s.E0.W.getD s.U.length 0=s.sum:=by
  show(s.W++[s.sum]).getD s.U.length 0=_
  rw[v.lu,RT,R6 (uy _)];simp
 have lF2:s.F2.length=s.W.length:=by show((s.F.set s.a false).set s.b false).length=_;rw[Sg,Sg,v.lf]
 have mF:∀i,i<s.W.length→s.E0.F.getD i false=s.F2.getD i false:=fun i hi=>by
  show(s.F2++[true]).getD i false=_
  rw[RT,R5 (by omega),←RT]
 have mFn:s.E0.F.getD s.U.length false=true:=by
  show(s.F2++[true]).getD s.U.length false=_
  rw[v.lu,RT,R6 (by omega),lF2];simp
 have F2o:∀i,i≠s.a→i≠s.b→s.F2.getD i false=s.F.getD i false:=fun i h1 h2=>by
  show((s.F.set s.a false).set s.b false).getD i false=_
  rw[getD_set_ne h2.symm,getD_set_ne h1.symm]
 have F2a:s.a≠s.b→s.F2.getD s.a false=false:=fun h=>by
  show((s.F.set s.a false).set s.b false).getD s.a false=_
  rw[getD_set_ne h.symm,yT]
 have F2b:s.F2.getD s.b false=false:=yT
 have hab:s.a≠s.b:=fun e=>nd1 (by simp only[uR];exact .inl (by rw[ea,eb,e]))
 have jl:∀p∈ta.2++tb.2,LG (xZ s.U s.a s.b) (p.2+1) p.1 s.U.length:=fun q hq=>by
  rcases Sj.1 hq with h|h
  · have:=v1.pt ta (by simp) q h
    rw[ea]at this
    exact Dj (A9 ra.2 rb.2 this) (H2 hla)
  · have:=v1.pt tb (by simp) q h
    rw[eb]at this
    exact Dj (A9 ra.2 rb.2 this) (H3 hlb)
 have lu:=v.lu
 have lf:=v.lf
 have getT2:∀t∈T2,s.E0.W.getD t.1 0=s.W.getD t.1 0:=fun t ht=>mW _ (by have:=(nT2 t ht).2.2;omega)
 have W2:∀t∈(s.U.length,xq (ta.2++tb.2))::T2,(t.1=s.U.length∧t.2=xq (ta.2++tb.2)∧s.E0.W.getD t.1 0=s.sum)∨(t∈T2∧s.E0.W.getD t.1 0=s.W.getD t.1 0):=fun t ht=>by
  rcases uR.1 ht with q|q
  · subst q;exact .inl ⟨rfl,rfl,mWn⟩
  · exact .inr ⟨q,getT2 t q⟩
 constructor
 · show(xZ s.U s.a s.b).length=(s.W++[s.sum]).length
   rw[D9];simp [lu]
 · show(s.F2++[true]).length=(s.W++[s.sum]).length
   simp [lF2]
 · intro t ht
   rcases uR.1 ht with q|q
   · subst q
     exact⟨mFn,H4⟩
   · have n:=nT2 t q
     have r:=v1.root t (by simp [q])
     refine⟨by rw[mF _ (by omega),F2o _ n.1 n.2.1];exact r.1, ?_⟩
     rw[FS.Qm,Bw n.2.2 n.1.symm n.2.1.symm];exact r.2
 · intro i hi
   by_cases e:i=s.U.length
   · exact⟨_,List.mem_cons_self ..,e.symm⟩
   · have hiL:i<s.W.length:=by
      apply Se
      intro c
      have:s.E0.F.length=s.W.length+1:=by show(s.F2++[true]).length=_;simp [lF2]
      rw[RT,R8 (by omega)]at hi
      cases hi
     rw[mF i hiL]at hi
     have h1:i≠s.a:=fun q=>by rw[q,F2a hab]at hi;cases hi
     have h2:i≠s.b:=fun q=>by rw[q,F2b]at hi;cases hi
     rw[F2o i h1 h2]at hi
     obtain⟨t,ht,et⟩:=v1.free i hi
     rcases uR.1 ht with q|q
     · subst q;exact absurd (et.symm.trans ea) h1
     · rcases uR.1 q with q|q
       · subst q;exact absurd (et.symm.trans eb) h2
       · exact⟨t,Sw _ q,et⟩
 · rw[R3,Sz]
   refine⟨fun hm=> ?_,nd3⟩
   obtain⟨t,ht,e⟩:=R4.1 hm
   have:=(nT2 t ht).2.2
   rw[e]at this
   exact absurd this (by simp)
 · intro t ht
   rcases uR.1 ht with q|q
   · subst q
     intro q hq
     obtain⟨q',hq',rfl⟩:=R4.1 hq
     exact jl q' hq'
   · intro x hx
     exact A9 ra.2 rb.2 (v1.pt t (by simp [q]) x hx)
 · have lv:=v1.leaves
   refine List.Perm.trans ?_ lv
   rw[R1,R1,R1,←R7]
   have:(xq (ta.2++tb.2)).map (·.1)=ta.2.map (·.1)++tb.2.map (·.1):=by
    unfold xq;rw[List.map_map,List.map_append];rfl
   rw[this]
 · intro t ht
   rcases uR.1 ht with q|q
   · subst q
     intro D hD
     have hne:=v1.ne ta (by simp)
     obtain⟨x,hx⟩:=List.exists_mem_of_ne_nil _ hne
     have h1:=hD (x.1,x.2+1) (R4.2 ⟨x,List.mem_append_left _ hx,rfl⟩)
     obtain⟨D,rfl⟩:∃E,D=E+1:=⟨D-1,by simp at h1;omega⟩
     rw[I0,On]
     rw[v1.CZ ta (by simp) D fun y hy=>by have:=hD (y.1,y.2+1) (R4.2 ⟨y,List.mem_append_left _ hy,rfl⟩);simp at this;omega]
     rw[v1.CZ tb (by simp) D fun y hy=>by have:=hD (y.1,y.2+1) (R4.2 ⟨y,List.mem_append_right _ hy,rfl⟩);simp at this;omega]
     rw[Nat.pow_succ];omega
   · exact v1.CZ t (by simp [q])
 · intro t ht
   rcases uR.1 ht with q|q
   · subst q
     have hne:=v1.ne ta (by simp)
     intro e
     have:xq (ta.2++tb.2)=[]:=e
     unfold xq at this
     rw[List.map_eq_nil_iff,List.append_eq_nil_iff]at this
     exact hne this.1
   · exact v1.ne t (by simp [q])
 · intro t ht
   rcases W2 t ht with ⟨_,_,e⟩|⟨q,e⟩
   · rw[e];omega
   · rw[e];exact v1.HJ t (by simp [q])
 · exact Jl hla hlb v.up
 · rw[R3,Sl,mWn,Sp getT2];omega
 · intro hb t ht u hu
   have b1:=v1.K0 hb
   have ba:=b1 tb (by simp) ta (by simp)
   rw[ea,eb]at ba
   rcases W2 t ht with ⟨_,_,e⟩|⟨q,e⟩
   · rcases W2 u hu with ⟨_,_,e'⟩|⟨q',e'⟩
     · rw[e,e'];omega
     · rw[e,e'];have:=wbt u q';omega
   · rcases W2 u hu with ⟨_,_,e'⟩|⟨q',e'⟩
     · rw[e,e'];have:=b1 t (by simp [q]) ta (by simp);rw[ea]at this;omega
     · rw[e,e'];exact b1 t (by simp [q]) u (by simp [q'])
 · intro hb t ht x hx
   have b1:=v1.K0 hb
   have ba:=b1 tb (by simp) ta (by simp)
   have bb:=b1 ta (by simp) tb (by simp)
   rw[ea,eb]at ba bb
   rcases W2 t ht with ⟨_,e2,e⟩|⟨q,e⟩
   · rw[e]
     rw[e2]at hx
     obtain⟨y,hy,rfl⟩:=R4.1 hx
     have p2:(0:Int)<2^y.2:=Int.pow_pos (by omega)
     show(3:Int)^(y.2+1)≤s.sum* 2^(y.2+1)
     rw[Int.pow_succ,Int.pow_succ]
     have key:∀w:Int,(3:Int)^y.2≤w* 2^y.2→3* w≤2* s.sum→(3:Int)^y.2* 3≤s.sum* (2^y.2* 2):=fun w h1 h2=>by
      have a1:(3:Int)^y.2* 3≤(w* 2^y.2)* 3:=Int.mul_le_mul_of_nonneg_right h1 (by omega)
      have a2:(3* w)* 2^y.2≤(2* s.sum)* 2^y.2:=Int.mul_le_mul_of_nonneg_right h2 (by omega)
      have a3:(w* 2^y.2)* 3=(3* w)* 2^y.2:=by rw[Int.mul_comm 3 w,Int.mul_assoc,Int.mul_assoc,Int.mul_comm _ 3]
      have a4:s.sum* (2^y.2* 2)=(2* s.sum)* 2^y.2:=by rw[Int.mul_comm 2 s.sum,Int.mul_assoc,Int.mul_comm 2 (2^y.2)]
      omega
     rcases Sj.1 hy with h|h
     · have:=v1.IF hb ta (by simp) y h
       rw[ea]at this
       exact key _ this (by omega)
     · have:=v1.IF hb tb (by simp) y h
       rw[eb]at this
       exact key _ this (by omega)
   · rw[e];exact v1.IF hb t (by simp [q]) x hx
theorem yq.step {bal:Bool} {n:Nat} {tot:Int} {s:FS} {T:List Tr} (v:yq bal n tot s T) (h2:2≤T.length) (ht:tot<1000000000000000):s.ok∧∃T',T'.length+1=T.length∧yq bal n tot s.E0 T':=by
 obtain⟨ta,tb,T2,p,ea,eb,l1,l2,wab,wbt⟩:=v.two h2
 have lT:=p.length_eq
 obtain⟨a,b⟩:=v.KG p ea eb l1 l2 wab wbt ht
 exact⟨a,_,by rw[lT];simp,b⟩
def T0 (n:Nat):List Tr:=(List.range n).map fun i=>(i,[(i,0)])
theorem Dv:∀(ws:List Int),((List.range ws.length).map fun i=>ws.getD i 0).sum=ws.sum:=by
 intro ws
 have:(List.range ws.length).map (fun i=>ws.getD i 0)=ws:=by
  apply List.ext_getElem?
  intro i
  rw[uJ]
  by_cases h:i<ws.length
  · rw[So h,RW h];simp [RT,h]
  · rw[R8 (by simp;omega),R8 (by omega)];rfl
 rw[this]
theorem zO {α:Type} {n i:Nat} {x d:α} (h:i<n):(List.replicate n x).getD i d=x:=by
 rw[RT,Sk,if_pos h];rfl
theorem yq.init (ws : List Int) (bal : Bool) (pos : ∀ y ∈ ws, 1 ≤ y) (hb : bal = true → ∀ y ∈ ws, y = 1) : yq bal ws.length ws.sum (Cg ws) (T0 ws.length) := by
 have mem:∀t∈T0 ws.length,∃i,i<ws.length∧t=(i,[(i,0)]):=fun t ht=>by
  obtain⟨i,hi,rfl⟩:=R4.1 ht
  exact⟨i,List.mem_range.1 hi,rfl⟩
 have gw:∀i,i<ws.length→ws.getD i 0∈ws:=fun i hi=>by
  rw[RT,RW hi];exact Sb hi
 constructor
 · simp [Cg]
 · simp [Cg]
 · intro t ht
   obtain⟨i,hi,rfl⟩:=mem t ht
   exact⟨zO hi,by show(List.replicate ws.length (-1:Int))[i]?=_;rw[Sk,if_pos hi]⟩
 · intro i hi
   have:i<ws.length:=by
    apply Se
    intro c
    have e:(Cg ws).F.getD i false=false:=by
     show(List.replicate ws.length true).getD i false=false
     rw[RT,R8 (by simp;omega)];rfl
    rw[e]at hi;cases hi
   exact⟨(i,[(i,0)]),R4.2 ⟨i,List.mem_range.2 this,rfl⟩,rfl⟩
 · unfold T0
   rw[List.map_map]
   have:((fun t:Tr=>t.1)∘fun i=>((i,[(i,0)]):Tr))=id:=rfl
   rw[this,List.map_id];exact List.nodup_range
 · intro t ht q hq
   obtain⟨i,hi,rfl⟩:=mem t ht
   simp at hq
   subst hq
   exact rfl
 · have:(T0 ws.length).flatMap (fun t=>t.2.map (·.1))=List.range ws.length:=by
    unfold T0
    rw[List.flatMap_map]
    have:∀l:List Nat,(l.flatMap fun i=>([(i,0)]:List (Nat×Nat)).map (·.1))=l:=by
     intro l
     induction l with
     |nil=>rfl
     |cons x l ih=>rw[R1,ih];rfl
    exact this _
   rw[this]
 · intro t ht D _
   obtain⟨i,hi,rfl⟩:=mem t ht
   simp [kr]
 · intro t ht
   obtain⟨i,hi,rfl⟩:=mem t ht
   simp
 · intro t ht
   obtain⟨i,hi,rfl⟩:=mem t ht
   exact pos _ (gw i hi)
 · intro j hj
   have:j<ws.length:=by simpa [Cg]using hj
   exact .inl (zO this)
 · unfold T0
   rw[List.map_map]
   exact Dv ws
 · intro h t ht u hu
   obtain⟨i,hi,rfl⟩:=mem t ht
   obtain⟨j,hj,rfl⟩:=mem u hu
   have a:=hb h _ (gw i hi)
   have b:=hb h _ (gw j hj)
   show ws.getD i 0≤2* ws.getD j 0
   omega
 · intro h t ht q hq
   obtain⟨i,hi,rfl⟩:=mem t ht
   simp at hq
   subst hq
   have a:=hb h _ (gw i hi)
   show(3:Int)^0≤ws.getD i 0* 2^0
   rw[a];simp
theorem yq.run {bal:Bool} {n:Nat} {tot:Int} (ht:tot<1000000000000000):∀(m:Nat) (s:FS) (T:List Tr),yq bal n tot s T→T.length=m+1→(∀k,k<m→(FS.ya k s).ok)∧∃t,yq bal n tot (FS.ya m s) [t]
 | 0, s, T, v, h => by
   refine⟨fun k hk=>by omega, ?_⟩
   match T,h with
   |[t],_=>exact⟨t,v⟩
 | m + 1, s, T, v, h => by
   obtain⟨ok,T',hl,v'⟩:=v.step (by omega) ht
   obtain⟨h1,t,h2⟩:=yq.run ht m s.E0 T' v' (by omega)
   refine⟨fun k hk=> ?_,t,h2⟩
   cases k with
   |zero=>exact ok
   |succ k=>exact h1 k (by omega)
theorem Ok (ws:List Int) (bal:Bool) (h1:1≤ws.length) (pos:∀y∈ws,1≤y) (hs:ws.sum<1000000000000000) (hb:bal=true→∀y∈ws,y=1):
 (∀k,k<ws.length-1→(FS.ya k (Cg ws)).ok)∧HI (FS.ya (ws.length-1) (Cg ws)).U∧(FS.ya (ws.length-1) (Cg ws)).U.length=(FS.ya (ws.length-1) (Cg ws)).W.length∧
 (∀D:Nat,(∀d∈vi ws,d≤(D:Int))→((vi ws).map fun d=>2^(D-d.toNat)).sum=2^D)∧
 (bal=true→∀d∈vi ws,(3:Int)^d.toNat≤ws.sum* 2^d.toNat)∧(2≤ws.length→∀d∈vi ws,1≤d):=by
 obtain⟨ok,t,v⟩:=yq.run hs (ws.length-1) (Cg ws) (T0 ws.length) (yq.init ws bal pos hb) (by simp [T0];omega)
 obtain⟨S,hS⟩:∃S,S=FS.ya (ws.length-1) (Cg ws):=⟨_,rfl⟩
 have eD:vi ws=ES S.U ws.length:=by rw[hS];rfl
 rw[←hS]at v ⊢
 have up:=v.up
 have rt:=(v.root t (by simp)).2
 have rtD:S.U.getD t.1 (-1)= -1:=by rw[RT,rt];rfl
 have rl:=(uu.1 rt).1
 have lv:=v.leaves
 simp only[R1,List.flatMap_nil,Sd]at lv
 have dep:∀q∈t.2,BJ S.U S.U.length (S.U.getD q.1 (-1))=q.2:=fun q hq=>by
  have:=v.pt t (by simp) q hq
  have l:=Fh up this
  exact Fi up this rtD _ (by omega)
 have pm:(vi ws).Perm (t.2.map fun q=>((q.2:Nat):Int)):=by
  rw[eD]
  unfold ES
  have:=lv.symm.map (fun i=>((BJ S.U S.U.length (S.U.getD i (-1)):Nat):Int))
  refine this.trans ?_
  rw[List.map_map]
  have e:t.2.map ((fun i=>((BJ S.U S.U.length (S.U.getD i (-1)):Nat):Int))∘fun x=>x.1)=t.2.map fun q=>((q.2:Nat):Int):=Sp fun q hq=>by
   show((BJ S.U S.U.length (S.U.getD q.1 (-1)):Nat):Int)=_
   rw[dep q hq]
  rw[e]
 have mem:∀d∈vi ws,∃q∈t.2,d=((q.2:Nat):Int):=fun d hd=>by
  obtain⟨q,hq,rfl⟩:=R4.1 (pm.mem_iff.1 hd)
  exact⟨q,hq,rfl⟩
 refine⟨ok,up,v.lu,fun D hD=> ?_,fun hbt d hd=> ?_,fun h2 d hd=> ?_⟩
 · have:=En (pm.map fun d=>2^(D-d.toNat))
   rw[this,List.map_map]
   have kk:=v.CZ t (by simp) D fun q hq=>by
    have:=hD ((q.2:Nat):Int) (pm.mem_iff.2 (R4.2 ⟨q,hq,rfl⟩))
    omega
   rw[←kk]
   unfold kr
   congr 1
 · obtain⟨q,hq,rfl⟩:=mem d hd
   have:=v.IF hbt t (by simp) q hq
   have sm:=v.sum
   rw[R3,SA,Sl,List.sum_nil,Int.add_zero]at sm
   rw[←sm]
   exact this
 · obtain⟨q,hq,rfl⟩:=mem d hd
   have pq:=v.pt t (by simp) q hq
   apply Se
   intro c
   have z:q.2=0:=by omega
   rw[z]at pq
   have e:q.1=t.1:=pq
   have ql:q.1<ws.length:=List.mem_range.1 (lv.mem_iff.1 (R4.2 ⟨q,hq,rfl⟩))
   have rr:S.W.length=ws.length+(ws.length-1):=by rw[hS,FS.A3];rfl
   have kk:∀D,(∀p∈t.2,p.2≤D)→kr D t.2=2^D:=v.CZ t (by simp)
   obtain⟨D,hDD⟩:∃D,∀p∈t.2,p.2≤D:=⟨t.1,fun p hp=>by have:=Fh up (v.pt t (by simp) p hp);omega⟩
   have k:=kk D hDD
   have l2:t.2.length=ws.length:=by
    have:=lv.length_eq
    simpa using this
   have pe:=List.perm_cons_erase hq
   have:kr D t.2=kr D (q::t.2.erase q):=En (pe.map _)
   rw[this]at k
   have:kr D (q::t.2.erase q)=2^(D-q.2)+kr D (t.2.erase q):=by simp [kr]
   rw[this,z,Nat.sub_zero]at k
   have le:=pe.length_eq
   rw[RU]at le
   cases hE:t.2.erase q with
   |nil=>rw[hE]at le;simp at le;omega
   | cons y r =>
     rw[hE]at k
     have:kr D (y::r)=2^(D-y.2)+kr D r:=by simp [kr]
     have:=Nat.pow_pos (n:=D-y.2) (show 0<2 by omega)
     omega
def wR (l:List Int) (i:Nat):List Int:=l.set i (l.getD i 0+1)
theorem xf (l:List Int) (i:Nat):(wR l i).length=l.length:=by simp [wR]
theorem yD {l:List Int} {i:Nat} {n:Int} (h:∀y∈l,0≤y∧y≤n) (hn:0≤n):∀y∈wR l i,0≤y∧y≤n+1:=by
 intro y hy
 rcases Sq hy with q|q
 · have:=h y q;omega
 · subst q
   rw[RT]
   cases e:l[i]? with
   |none=>simp;omega
   |some z=>have:=h z (uE e);simp;omega
def xL (t:Tok):Prop:=(t.len=0∧0≤t.lit∧t.lit≤255)∨(3≤t.len∧t.len≤258∧1≤t.vL∧t.vL≤32768)
def ze:List Tok→List Int→List Int
 |[],A=>A
 |t::r,A=>ze r (if t.len=0 then wR A t.lit.toNat else wR A (xp t.len.toNat))
def zT:List Tok→List Int→List Int
 |[],B=>B
 |t::r,B=>zT r (if t.len=0 then B else wR B (xI t.vL.toNat))
structure KR (h h':H) (a b:Nat):Prop where
 floor:h'.floor=h.floor
 next:h.next≤h'.next
 vP:∀i,i<h.next→i≠a→i≠b→h'.get i=h.get i
theorem KR.refl (h:H) (a b:Nat):KR h h a b:=⟨rfl,uy _,fun _ _ _ _=>rfl⟩
theorem KR.trans {x y z:H} {a b:Nat} (p:KR x y a b) (q:KR y z a b):KR x z a b:=⟨q.floor.trans p.floor,uS p.next q.next,fun i h1 h2 h3=>(q.vP i (Nat.lt_of_lt_of_le h1 p.next) h2 h3).trans (p.vP i h1 h2 h3)⟩
theorem AO {l:List Int} {i:Nat} (h:i<l.length):(ints l)[i]?=some (.int .i64 (l.getD i 0)):=sq (by rw[RT,RW h];rfl)
theorem Cy:∀(ts:List Tok) (A:List Int),(ze ts A).length=A.length
 |[],A=>rfl
 |t::r,A=>by rw[ze,Cy r];split<;>rw[xf]
theorem CC:∀(ts:List Tok) (A:List Int),(zT ts A).length=A.length
 |[],A=>rfl
 | t :: r, A => by
   rw[zT,CC r]
   split
   · rfl
   · rw[xf]
theorem Cz:∀(ts:List Tok) (A:List Int) (n:Int),0≤n→(∀y∈A,0≤y∧y≤n)→∀y∈ze ts A,0≤y∧y≤n+ts.length
 |[],A,n,hn,h=>by simpa [ze]using h
 | t :: r, A, n, hn, h => by
   intro y hy
   rw[ze]at hy
   have:=Cz r _ (n+1) (by omega) (by split<;>exact yD h hn) y hy
   simp only[RU];omega
theorem CD:∀(ts:List Tok) (A:List Int) (n:Int),0≤n→(∀y∈A,0≤y∧y≤n)→∀y∈zT ts A,0≤y∧y≤n+ts.length
 |[],A,n,hn,h=>by simpa [zT]using h
 | t :: r, A, n, hn, h => by
   intro y hy
   rw[zT]at hy
   have:=CD r _ (n+1) (by omega) (by
    split
    · intro z hz;have:=h z hz;omega
    · exact yD h hn) y hy
   simp only[RU];omega
def xc:List Int→List Int→List Int
 |[],C=>C
 |d::r,C=>xc r (wR C d.toNat)
theorem AE:∀(ds C:List Int),(xc ds C).length=C.length
 |[],C=>rfl
 |d::r,C=>by rw[xc,AE r,xf]
theorem AF:∀(ds A:List Int) (n:Int),0≤n→(∀y∈A,0≤y∧y≤n)→∀y∈xc ds A,0≤y∧y≤n+ds.length
 |[],A,n,hn,h=>by simpa [xc]using h
 | t :: r, A, n, hn, h => by
   intro y hy
   rw[xc]at hy
   have:=AF r _ (n+1) (by omega) (yD h hn) y hy
   simp only[RU];omega
def y7 (R:List Int):List Nat:=R.flatMap fun y=>vh y.toNat 3
theorem Ba:∀R:List Int,(y7 R).length=3* R.length
 |[]=>rfl
 | y :: R => by
   have:=Ba R
   unfold y7 at *
   rw[R1,uU,this];simp [vh,vt];omega
def yu (E:List (Int×Int)) (D:List Int):List Nat:=D.flatMap fun y=>u7 E y.toNat
theorem Fw {E:List (Int×Int)}:∀{D:List Int},(∀y∈D,Ay E y.toNat)→(yu E D).length≤15* D.length
 |[],_=>by simp [yu]
 | y :: D, h => by
   have:=Fw (E:=E) (D:=D) fun z hz=>h z (by simp [hz])
   obtain⟨n,v,_,q1,q2,q3,q4⟩:=(h y (by simp)).bits
   unfold yu at *
   rw[R1,uU,q4,wc,RU];omega
theorem wD (l:List Int) (k:Nat):∀n,k≤vC l k n∧vC l k n≤max k n
 |0=>⟨uy _,by rw[vC];omega⟩
 | n + 1 => by
   rw[vC]
   have:=wD l k n
   split
   · omega
   · split
     · omega
     · omega
theorem Bx:∀(K:Nat) (S W O:List Int),(ym S K W O).length=O.length
 |0,S,W,O=>by rw[ym,wx]
 |K+1,S,W,O=>by rw[ym,Bx K,wx]
theorem yE (C:List Int) (K:Nat):(vV C K).length=C.length:=by unfold vV;rw[Bx];simp
theorem Ij (h:H) (l:List Int) {k:Nat} (hk:k≤l.length):Rd h (.aV false (ints l) 0 k 1) (ints (l.take k)):=by
 refine⟨?_,by intro s e;cases e⟩
 have:(ints (l.take k)).length=k:=by rw[pk,Su];omega
 rw[this]
 simp [aS,ints,hk,List.map_take]
def dA (ts:List Tok):List Int:=ze ts ((List.replicate 286 0).set 256 1)
def dB (ts:List Tok):List Int:=zT ts (List.replicate 30 0)
def yh (l:List Int) (k:Nat):List Int:=l.take (vC l k l.length)
theorem AK (l:List Int) {k:Nat} (h:k≤l.length):(yh l k).length=vC l k l.length:=by
 have:=wD l k l.length
 unfold yh;rw[Su];omega
def vR (ts:List Tok) (la lb Lc:List Int):List Nat:=
 let all:=la++lb
 let row:=vn.map (fun o=>Lc.getD o.toNat 0)
 let k:=vC row 4 19
 vh 5 3++(vh (la.length-257) 5++(vh (lb.length-1) 5++(vh (k-4) 4++(y7 (row.take k)++(yu (uX Lc) all++(vX (uX la) (uX lb) ts++u7 (uX la) 256))))))
structure Az (ts:List Tok) (KA KB KC:Nat) (la lb Lc:List Int):Prop where
 HX:DI ts=true
 n:ts.length≤300
 tok:∀t∈ts,xL t
 ra:wP 15 KA (wG (dA ts))
 rb:wP 15 KB (wG (dB ts))
 ea:la=yh (vV (dA ts) KA) 257
 eb:lb=yh (vV (dB ts) KB) 1
 all:∀y∈la++lb,0≤y∧y<19
 rc:wP 7 KC (wG (xc (la++lb) (List.replicate 19 0)))
 ec:Lc=vV (xc (la++lb) (List.replicate 19 0)) KC
 row:∀y∈Lc,0≤y∧y<8
 ca:vp la=0∨vp la=302
 cb:vp lb=0∨vp lb=302
 cc:vp Lc=0∨vp Lc=302
 zu:∀y∈la++lb,Ay (uX Lc) y.toNat
 KU:∀t∈ts,GY (uX la) (uX lb) t
 Ei:Ay (uX la) 256
theorem yS (l:List Int):(uX l).length=l.length:=by simp [uX]
theorem zD (h:H) (l:List Int):yx 2 h (zg l) (uX l).length ((uX l).flatMap wH):=by
 have:=HA (n:=2) (k:=l.length) (h:=h) (cs:=(uX l).flatMap wH) (by rw[Bp yG,yS])
 rw[yS];exact this
theorem Ap (h:H) (l:List Int):Rd h (za 1 l.length (ints l)) (ints l):=by
 have:=HA (n:=1) (k:=l.length) (h:=h) (cs:=ints l) (by rw[pk];omega)
 exact⟨by have:=this.1;rw[pk];exact this,this.2.2⟩
theorem C8 {C:List Int} (h:2≤C.length):(wo C).length≤C.length:=Gz h (wy 0 C)
theorem L4 (c:Int):∀k:Nat,c* 2^k<3^k→0≤c→∀m:Nat,c* 2^(k+m)<3^(k+m)
 |k,h,hc,0=>h
 | k, h, hc, m + 1 => by
   have ih:=L4 c k h hc m
   rw[←ux,Int.pow_succ,Int.pow_succ,←Int.mul_assoc]
   have p:(0:Int)≤c* 2^(k+m):=Int.mul_nonneg hc (Int.pow_nonneg (by omega))
   omega
theorem AZ:∀(ds:List Int) (a m:Int),(∀d∈ds,d≤m)→a≤m→Ag ds a≤m
 |[],a,m,_,h=>h
 | d :: ds, a, m, hd, h => by
   rw[Ag]
   refine AZ ds _ m (fun x hx=>hd x (by simp [hx])) ?_
   have:=hd d (by simp)
   unfold Da;split<;>omega
theorem Cq:∀(ds:List Int) (a:Int),a≤Ag ds a∧∀d∈ds,d≤Ag ds a
 |[],a=>⟨Ss _,by simp⟩
 | d :: ds, a => by
   have⟨h1,h2⟩:=Cq ds (Da a d)
   have:a≤Da a d∧d≤Da a d:=by unfold Da;split<;>omega
   rw[Ag]
   refine⟨by omega,fun x hx=> ?_⟩
   rcases uR.1 hx with q|q
   · subst q;omega
   · exact h2 x q
theorem Gl:∀ws:List Int,(∀y∈ws,y=1)→ws.sum=ws.length
 |[],_=>rfl
 | y :: ws, h => by
   have:=Gl ws fun z hz=>h z (by simp [hz])
   have:=h y (by simp)
   rw[Sl,RU];omega
theorem Fc:∀ws:List Int,(∀y∈ws,1≤y)→(ws.length:Int)≤ws.sum
 |[],_=>by simp
 | y :: ws, h => by
   have:=Fc ws fun z hz=>h z (by simp [hz])
   have:=h y (by simp)
   rw[Sl,RU];omega
theorem Bs:∀ws:List Int,(∀y∈ws,1≤y)→(v8 ws).sum≤ws.sum∧((∃y∈ws,y≠1)→(v8 ws).sum<ws.sum)
 |[],_=>⟨Ss _,by simp⟩
 | y :: ws, h => by
   obtain⟨h1,h2⟩:=Bs ws fun z hz=>h z (by simp [hz])
   have hy:=h y (by simp)
   have e:(v8 (y::ws)).sum=yl y+(v8 ws).sum:=by simp [v8]
   rw[e,Sl]
   have a:yl y≤y:=by unfold yl;omega
   refine⟨by omega,fun ⟨z,hz,hz1⟩=> ?_⟩
   rcases uR.1 hz with q|q
   · subst q
     have:yl z<z:=by unfold yl;omega
     omega
   · have:=h2 ⟨z,q,hz1⟩;omega
theorem D0 {ws:List Int} (h:∀y∈ws,1≤y):∀y∈v8 ws,1≤y:=by
 intro y hy
 obtain⟨z,hz,rfl⟩:=R4.1 hy
 have:=h z hz
 unfold yl;omega
theorem Dc {ws:List Int} (h1:1≤ws.length) (ho:∀y∈ws,y=1) {c:Int} {k:Nat} (hc:(ws.length:Int)≤c) (hk:c* 2^(k+1)<3^(k+1)) (hs:ws.length≤288):∀d∈vi ws,d≤k:=by
 intro d hd
 have sm:=Gl ws ho
 obtain⟨_,_,_,_,hb,_⟩:=Ok ws true h1 (fun y hy=>by have:=ho y hy;omega) (by omega) (fun _=>ho)
 have b:=hb rfl d hd
 apply Se
 intro q
 obtain⟨m,hm⟩:∃m:Nat,d.toNat=k+1+m:=⟨d.toNat-(k+1),by omega⟩
 rw[hm]at b
 have:=L4 c (k+1) hk (by omega) m
 have p:(0:Int)<2^(k+1+m):=Int.pow_pos (by omega)
 have:ws.sum* 2^(k+1+m)≤c* 2^(k+1+m):=Int.mul_le_mul_of_nonneg_right (by omega) (by omega)
 omega
theorem Gk {ws:List Int} (hl:ws.length≤288) (pos:∀y∈ws,1≤y) (hs:ws.sum<1000000000000000):H8 ws:=by
 by_cases e:ws=[]
 · exact .inl e
 · have h1:1≤ws.length:=List.length_pos_iff.2 e
   obtain⟨a,b,c,_⟩:=Ok ws false h1 pos hs (fun h=>by cases h)
   exact .inr ⟨h1,hl,a,b,c⟩
theorem Jj {most : Int} (hm : 0 ≤ most) : ∀ (f : Nat) (ws : List Int), ws.sum ≤ f → (∀ y ∈ ws, 1 ≤ y) → ws.sum < 1000000000000000 → ((13 ≤ most ∧ ws.length ≤ 288) ∨ (7 ≤ most ∧ ws.length ≤ 19)) → ∃ K, wP most K ws := by
 intro f
 induction f with
 | zero =>
   intro ws hf pos hs hl
   have:=Fc ws pos
   have:ws=[]:=List.length_eq_zero_iff.1 (by omega)
   subst this
   exact⟨0,.last (.inl rfl) hm⟩
 | succ f ih =>
   intro ws hf pos hs hl
   have o:=Gk (by omega) pos hs
   by_cases c:Ag (vi ws) 0≤most
   · exact⟨0,.last o c⟩
   · have hne:ws≠[]:=fun e=>by subst e;exact c hm
     have h1:1≤ws.length:=List.length_pos_iff.2 hne
     have ho:∃y∈ws,y≠1:=by
      apply Se
      intro q
      have all1:∀y∈ws,y=1:=fun y hy=>Se fun r=>q ⟨y,hy,r⟩
      rcases hl with ⟨a,b⟩|⟨a,b⟩
      · have:=Dc (c:=288) (k:=13) h1 all1 (by omega) (by decide) (by omega)
        exact c (AZ _ _ _ (fun d hd=>by have:=this d hd;omega) hm)
      · have:=Dc (c:=19) (k:=7) h1 all1 (by omega) (by decide) (by omega)
        exact c (AZ _ _ _ (fun d hd=>by have:=this d hd;omega) hm)
     have hh:=(Bs ws pos).2 ho
     obtain⟨K,r⟩:=ih (v8 ws) (by omega) (D0 pos) (by omega) (by rw[zJ];exact hl)
     exact⟨K+1,.more o (by omega) hne r⟩
theorem wI:∀(S D O:List Int) (p:Nat),(∀s∈S,s.toNat≠p)→(vI S D O)[p]?=O[p]?
 |[],D,O,p,h=>by simp [vI]
 |s::S,[],O,p,h=>by simp [vI]
 | s :: S, d :: D, O, p, h => by
   rw[vI,wI S D _ p fun t ht=>h t (by simp [ht]),Sa,if_neg (h s (by simp))]
theorem xB:∀(S D O:List Int) (j:Nat) (s d:Int),(S.map Int.toNat).Nodup→S[j]?=some s→D[j]?=some d→s.toNat<O.length→(vI S D O)[s.toNat]?=some d
 |[],D,O,j,s,d,nd,h1,h2,h3=>by simp at h1
 |t::S,[],O,j,s,d,nd,h1,h2,h3=>by simp at h2
 | t :: S, e :: D, O, 0, s, d, nd, h1, h2, h3 => by
   simp at h1 h2
   subst h1;subst h2
   rw[R3,Sz]at nd
   rw[vI,wI S D _ _ fun u hu q=>nd.1 (R4.2 ⟨u,hu,q⟩),Sa,if_pos rfl,if_pos h3]
 | t :: S, e :: D, O, j + 1, s, d, nd, h1, h2, h3 => by
   rw[R3,Sz]at nd
   rw[vI]
   exact xB S D _ j s d nd.2 (by simpa using h1) (by simpa using h2) (by rw[Sg];exact h3)
theorem xG {S D O:List Int} {n:Nat} (hl:D.length=S.length) (nd:(S.map Int.toNat).Nodup) (hO:O.length=n) (hr:∀s∈S,s.toNat<n) (hz:∀p,p<n→(∀s∈S,s.toNat≠p)→O[p]?=some 0):vI S D O=vI S D (List.replicate n 0):=by
 apply List.ext_getElem?
 intro p
 by_cases hp:p<n
 · by_cases c:∃s∈S,s.toNat=p
   · obtain⟨s,hs,rfl⟩:=c
     obtain⟨j,hj,ej⟩:=Sv.1 hs
     have h1:S[j]?=some s:=by rw[RW hj,ej]
     have h2:D[j]?=some (D[j]'(by omega)):=RW (by omega)
     rw[xB S D O j s _ nd h1 h2 (by omega),xB S D _ j s _ nd h1 h2 (by simpa using hp)]
   · have c':∀s∈S,s.toNat≠p:=fun s hs q=>c ⟨s,hs,q⟩
     rw[wI _ _ _ _ c',wI _ _ _ _ c',hz p hp c',Sk,if_pos hp]
 · rw[R8 (by rw[wx];omega),R8 (by rw[wx];simp;omega)]
theorem C7 {most:Int} {S:List Int} {n:Nat} (nd:(S.map Int.toNat).Nodup) (hr:∀s∈S,s.toNat<n):∀(K:Nat) (W O:List Int),wP most K W→W.length=S.length→(∀y∈W,1≤y)→W.sum<1000000000000000→O.length=n→(∀p,p<n→(∀s∈S,s.toNat≠p)→O[p]?=some 0)→
 ∃W',W'.length=S.length∧(∀y∈W',1≤y)∧W'.sum<1000000000000000∧Ag (vi W') 0≤most∧ym S K W O=vI S (vi W') (List.replicate n 0)
 | 0, W, O, r, hl, pos, hs, hO, hz => by
   cases r with
   |last o c=>exact⟨W,hl,pos,hs,c,xG (by rw[wm,hl]) nd hO hr hz⟩
 | K + 1, W, O, r, hl, pos, hs, hO, hz => by
   cases r with
   | more o c hne r =>
     have:=(Bs W pos).1
     exact C7 nd hr K (v8 W) _ r (by rw[zJ,hl]) (D0 pos) (by omega) (by rw[wx,hO]) (fun p hp hq=>by rw[wI _ _ _ _ hq];exact hz p hp hq)
theorem Ir (f:Int→Nat):∀(O:List Int) (i:Nat) (d:Int),i<O.length→((O.set i d).map f).sum+f (O.getD i 0)=(O.map f).sum+f d
 |[],i,d,h=>by simp at h
 |x::O,0,d,h=>by simp;omega
 | x :: O, i + 1, d, h => by
   have:=Ir f O i d (by simpa using h)
   simp only[List.set_cons_succ,R3,Sl,List.getD_cons_succ];omega
theorem Dq (f:Int→Nat):∀(S D O:List Int),D.length=S.length→(S.map Int.toNat).Nodup→(∀s∈S,s.toNat<O.length)→((vI S D O).map f).sum+(S.map fun s=>f (O.getD s.toNat 0)).sum=(O.map f).sum+(D.map f).sum
 | [], D, O, hl, nd, hr => by
   have:D=[]:=List.length_eq_zero_iff.1 (by simpa using hl)
   subst this
   simp [vI]
 |s::S,[],O,hl,nd,hr=>by simp at hl
 | s :: S, d :: D, O, hl, nd, hr => by
   rw[R3,Sz]at nd
   have ih:=Dq f S D (O.set s.toNat d) (by simpa using hl) nd.2 (fun t ht=>by rw[Sg];exact hr t (by simp [ht]))
   have e:(S.map fun t=>f ((O.set s.toNat d).getD t.toNat 0))=S.map fun t=>f (O.getD t.toNat 0):=Sp fun t ht=>by
    rw[getD_set_ne (fun q=>nd.1 (R4.2 ⟨t,ht,q.symm⟩))]
   rw[e]at ih
   have ss:=Ir f O s.toNat d (hr s (by simp))
   simp only[vI,R3,Sl]
   omega
def f15 (n:Nat) (x:Int):Nat:=if 1≤x∧x≤n then 2^(n-x.toNat)else 0
theorem Ed:∀n,vo [] n=2^n
 |0=>rfl
 | n + 1 => by
   have c:wK [] (n+1)=0:=K8 _
   rw[vo,Ed n,c,Int.pow_succ];omega
theorem Eb (n:Nat):∀(q p:List Int),vo (p++q) n=vo p n-((q.map (f15 n)).sum:Nat)
 |[],p=>by simp
 | x :: q, p => by
   have e:p++x::q=(p++[x])++q:=by simp
   rw[e,Eb n q (p++[x]),C5,R3,Sl]
   unfold f15
   split
   · push_cast;omega
   · push_cast;omega
theorem zL (l:List Int) (n:Nat):vo l n=2^n-((l.map (f15 n)).sum:Nat):=by
 have:=Eb n l []
 rwa [List.nil_append,Ed]at this
theorem Ec (l:List Int):∀n,ve l n+wK l n+vo l n=2^n
 |0=>by simp [ve,vo,wK]
 | n + 1 => by
   have:=Ec l n
   rw[ve,vo,Int.pow_succ];omega
theorem Hk {l:List Int} {n:Nat} (h:0≤vo l n):∀m,m≤n→0≤vo l m:=by
 have:∀k m,m+k=n→0≤vo l m:=by
  intro k
  induction k with
  | zero =>
    intro m hm
    have:m=n:=by omega
    subst this;exact h
  | succ k ih =>
    intro m hm
    have:=ih (m+1) (by omega)
    rw[vo]at this
    omega
 exact fun m hm=>this (n-m) m (by omega)
theorem FT {l:List Int} {s:Nat} (hs:s<l.length) {n:Nat} (hn:1≤n) (e:l.getD s 0=(n:Int)):wK (l.take s) n<wK l n:=by
 have a:=DG hs n hn
 rw[if_pos e]at a
 have:∀(p q:List Int),wK p n≤wK (p++q) n:=fun p q=>by
  unfold wK;split
  · exact uy _
  · rw[List.countP_append];omega
 have b:=this (l.take (s+1)) (l.drop (s+1))
 rw[List.take_append_drop]at b
 omega
theorem E6 {l:List Int} (hl:0≤vo l 15) (hr:∀y∈l,0≤y∧y<16) {s:Nat} (hs:s<l.length) (h1:1≤l.getD s 0):Ay (uX l) s:=by
 have hm:l.getD s 0∈l:=by rw[RT,RW hs];exact Sb hs
 have r:=hr _ hm
 obtain⟨n,hn⟩:=R2 r.1
 have n1:1≤n:=by omega
 have lt:=FT hs n1 hn
 have f:=Ec l n
 have m:=Hk hl n (by omega)
 have fb:=(show 0≤ve l n from by
  have:∀n,0≤ve l n:=by
   intro n
   induction n with
   |zero=>simp [ve]
   |succ n ih=>rw[ve];omega
  exact this n)
 have tn:((n:Nat):Int).toNat=n:=by omega
 refine⟨n,(ve l n+wK (l.take s) n).toNat, ?_,n1,by omega, ?_⟩
 · unfold uX
   rw[uJ,So hs,RZ]
   unfold yz
   rw[if_pos h1,hn,tn]
   congr 2
   omega
 · have e2:((2^n:Nat):Int)=(2:Int)^n:=by push_cast;rfl
   omega
theorem BI:∀(C:List Int) (i:Nat),((u6 i C).map Int.toNat).Nodup
 |[],i=>by simp [u6]
 | c :: r, i => by
   have ih:=BI r (i+1)
   rw[u6]
   split
   · rw[R3,Sz]
     refine⟨fun h=> ?_,ih⟩
     obtain⟨s,hs,e⟩:=R4.1 h
     have:=wT (i+1) r s hs
     omega
   · exact ih
theorem Aw:∀(C:List Int) (i p:Nat),0<C.getD p 0→((i+p:Nat):Int)∈u6 i C
 |[],i,p,h=>by simp at h
 | c :: r, i, 0, h => by
   rw[u6,if_pos (by simpa using h)]
   simp
 | c :: r, i, p + 1, h => by
   have ih:=Aw r (i+1) p (by simpa using h)
   have e:i+1+p=i+(p+1):=by omega
   rw[e]at ih
   rw[u6]
   split
   · exact Sw _ ih
   · exact ih
theorem Dx:∀(C:List Int) (i:Nat),(∀y∈C,¬0<y)→u6 i C=[]
 |[],i,h=>rfl
 | c :: r, i, h => by
   rw[u6,if_neg (h c (by simp))]
   exact Dx r (i+1) fun y hy=>h y (by simp [hy])
theorem GA {S:List Int} {s:Int} (h:s∈S):s∈A8 S:=by
 unfold A8
 split
 · rename_i h1
   match S,h1 with
   | [t], _ =>
     simp at h;subst h
     split<;>simp
 · exact h
theorem Ly {S : List Int} (h : (S.map Int.toNat).Nodup) (hp : ∀ s ∈ S, 0 ≤ s) : ((A8 S).map Int.toNat).Nodup := by
 unfold A8
 split
 · rename_i h1
   match S,h1 with
   | [t], _ =>
     have:=hp t (by simp)
     split
     · rename_i c
       simp at c ⊢
       omega
     · rename_i c
       simp at c ⊢
       omega
 · exact h
theorem Kd {S:List Int} (h:S≠[]):2≤(A8 S).length:=by
 unfold A8
 split
 · rename_i h1
   split
   · simp
   · simp [h1]
 · rename_i h1
   have:=List.length_pos_iff.2 h
   omega
theorem Ke {S W:List Int} (hl:W.length=S.length) (h:∀y∈W,1≤y):∀y∈Hu S W,1≤y:=by
 intro s hs
 unfold Hu at hs
 split at hs
 · rename_i h1
   rw[←hl]at h1
   match W,h1 with
   | [t], _ =>
     have:=h t (by simp)
     split at hs
     · simp at hs;omega
     · simp at hs;omega
 · exact h s hs
theorem GM {α:Type}:∀l:List α,(l.map fun _=>(0:Nat)).sum=0
 |[]=>rfl
 |x::l=>by rw[R3,Sl,GM l]
theorem I5 {C:List Int} (h:∀y∈C,¬0<y):wo C=[]:=by
 unfold wo;rw[Dx C 0 h];rfl
theorem At:∀(l:List Int) (b:Int),(∀y∈l,y≤b)→l.sum≤b* l.length
 |[],b,_=>by simp
 | y :: l, b, h => by
   have:=At l b fun z hz=>h z (by simp [hz])
   have hy:=h y (by simp)
   rw[Sl,RU]
   have e:b* ((l.length+1:Nat):Int)=b* l.length+b:=by rw[Int.natCast_add,Int.mul_add];simp
   omega
theorem Gh {C : List Int} (hC : ∀ y ∈ C, 0 ≤ y ∧ y ≤ 2147483647) (h2 : 2 ≤ C.length) (hl : C.length ≤ 288) : (∀ y ∈ wG C, 1 ≤ y) ∧ (wG C).sum < 1000000000000000 := by
 have pos:∀y∈wG C,1≤y:=Ke (vD 0 C).symm fun y hy=>by have:=(xV C y hy).2;omega
 refine⟨pos, ?_⟩
 have up:∀y∈wG C,y≤2147483647:=by
  intro y hy
  have w:∀z∈u9 C,z≤2147483647:=fun z hz=>(hC z (xV C z hz).1).2
  unfold wG Hu at hy
  split at hy
  · rename_i h1
    rw[vD]at h1
    match hW:u9 C,h1 with
    | [t], _ =>
      rw[hW]at w hy
      have:=w t (by simp)
      split at hy
      · simp at hy;omega
      · simp at hy;omega
  · exact w y hy
 have:=At (wG C) 2147483647 up
 have l1:(wG C).length=(wo C).length:=Hm C
 have l2:=C8 h2
 omega
theorem zo {C:List Int} {most:Int} (hC:∀y∈C,0≤y∧y≤2147483647) (h2:2≤C.length) (hm:0≤most) (hl:(13≤most∧C.length≤288)∨(7≤most∧C.length≤19)):∃K,wP most K (wG C):=by
 obtain⟨a,b⟩:=Gh hC h2 (by omega)
 have l1:(wG C).length=(wo C).length:=Hm C
 have l2:=C8 h2
 exact Jj hm (wG C).sum.toNat (wG C) (by have:=Fc _ a;omega) a b (by omega)
theorem xR {C : List Int} {most : Int} {K : Nat} (hC : ∀ y ∈ C, 0 ≤ y ∧ y ≤ 2147483647) (h2 : 2 ≤ C.length) (hl : C.length ≤ 288) (hm : 0 ≤ most ∧ most ≤ 15) (r : wP most K (wG C)) :
 (vV C K).length=C.length∧(∀y∈vV C K,0≤y∧y≤most)∧(∀p,0<C.getD p 0→1≤(vV C K).getD p 0)∧((∃y∈C,0<y)→vo (vV C K) 15=0)∧((∀y∈C,¬0<y)→vV C K=List.replicate C.length 0):=by
 obtain⟨a,b⟩:=Gh hC h2 hl
 have nd:((wo C).map Int.toNat).Nodup:=Ly (BI C 0) fun s hs=>by have:=wT 0 C s hs;omega
 have rg:∀s∈wo C,0≤s∧s<C.length:=Kc h2 fun s hs=>by have:=wT 0 C s hs;omega
 have rg':∀s∈wo C,s.toNat<C.length:=fun s hs=>by have:=rg s hs;omega
 obtain⟨W',w1,w2,w3,w4,w5⟩:=C7 nd rg' K (wG C) (List.replicate C.length 0) r (Hm C) a b (by simp) (fun p hp _=>by rw[Sk,if_pos hp])
 have e:vV C K=vI (wo C) (vi W') (List.replicate C.length 0):=w5
 have dl:(vi W').length=(wo C).length:=by rw[wm,w1]
 have dm:∀d∈vi W',d≤most:=fun d hd=>by have:=(Cq (vi W') 0).2 d hd;omega
 have o:=Gk (ws:=W') (by have:=C8 h2;omega) w2 w3
 have d0:=FV o
 have gin:∀(j:Nat) (s d:Int),(wo C)[j]?=some s→(vi W')[j]?=some d→(vV C K)[s.toNat]?=some d:=fun j s d h1 h2=>by
  rw[e];exact xB _ _ _ j s d nd h1 h2 (by simpa using rg' s (uE h1))
 have gout:∀p:Nat,(∀s∈wo C,s.toNat≠p)→(vV C K)[p]?=(List.replicate C.length (0:Int))[p]?:=fun p hp=>by rw[e,wI _ _ _ _ hp]
 have hu:wo C≠[]→2≤(wo C).length:=fun hne=>by
  refine Kd fun q=>hne ?_
  unfold wo;rw[q];rfl
 have h1w:wo C≠[]→_:=fun hne=>Ok W' false (by have:=hu hne;omega) w2 w3 (fun h=>by cases h)
 refine⟨yE C K, ?_, ?_, ?_, ?_⟩
 · intro y hy
   obtain⟨p,hp⟩:=uM.1 hy
   by_cases c:∃s∈wo C,s.toNat=p
   · obtain⟨s,hs,rfl⟩:=c
     obtain⟨j,hj⟩:=uM.1 hs
     have jl:=(uu.1 hj).1
     have hd:(vi W')[j]?=some ((vi W')[j]'(by omega)):=RW (by omega)
     rw[gin j s _ hj hd]at hp
     obtain rfl:=uh hp
     have m:=Sb (l:=vi W') (n:=j) (by omega)
     exact⟨(d0 _ m).1,dm _ m⟩
   · rw[gout p fun s hs q=>c ⟨s,hs,q⟩,Sk]at hp
     split at hp
     · obtain rfl:=uh hp;omega
     · cases hp
 · intro p hp
   have sm:=Aw C 0 p hp
   rw[uF]at sm
   have hs:(p:Int)∈wo C:=GA sm
   obtain⟨j,hj⟩:=uM.1 hs
   have jl:=(uu.1 hj).1
   have hd:(vi W')[j]?=some ((vi W')[j]'(by omega)):=RW (by omega)
   have g:=gin j _ _ hj hd
   have tp:((p:Nat):Int).toNat=p:=by omega
   rw[tp]at g
   rw[RT,g]
   have hne:wo C≠[]:=fun q=>by rw[q]at hs;simp at hs
   exact(h1w hne).2.2.2.2.2 (by have:=hu hne;omega) _ (Sb _)
 · rintro ⟨y,hy,hpos⟩
   obtain⟨p,hp⟩:=uM.1 hy
   have sm:=Aw C 0 p (by rw[RT,hp];exact hpos)
   have hs:((0+p:Nat):Int)∈wo C:=GA sm
   have hne:wo C≠[]:=fun q=>by rw[q]at hs;simp at hs
   have H:=h1w hne
   have kr:=H.2.2.2.1 15 (fun d hd=>by have:=dm d hd;omega)
   have one:=H.2.2.2.2.2 (by have:=hu hne;omega)
   have ss:=Dq (f15 15) (wo C) (vi W') (List.replicate C.length 0) dl nd (fun s hs=>by simpa using rg' s hs)
   rw[←e]at ss
   have z1:((wo C).map fun s=>f15 15 ((List.replicate C.length (0:Int)).getD s.toNat 0)).sum=0:=by
    have:(wo C).map (fun s=>f15 15 ((List.replicate C.length (0:Int)).getD s.toNat 0))=(wo C).map fun _=>0:=Sp fun s hs=>by
     rw[zO (rg' s hs)];rfl
    rw[this,GM]
   have z2:((List.replicate C.length (0:Int)).map (f15 15)).sum=0:=by
    rw[List.map_replicate]
    have:f15 15 0=0:=rfl
    rw[this];simp
   have z3:(vi W').map (f15 15)=(vi W').map fun d=>2^(15-d.toNat):=Sp fun d hd=>by
    unfold f15
    rw[if_pos ⟨one d hd,by have:=dm d hd;omega⟩]
   rw[z1,z2,z3,kr]at ss
   rw[zL,show((vV C K).map (f15 15)).sum=2^15 by omega]
   rfl
 · intro h
   rw[e,I5 h]
   simp [vI]
theorem yf (l : List Int) (k : Nat) : ∀ n p, vC l k n ≤ p → p < n → ¬ 0 < l.getD p 0
 |0,p,h1,h2=>by omega
 | n + 1, p, h1, h2 => by
   rw[vC]at h1
   split at h1
   · omega
   · split at h1
     · omega
     · by_cases e:p=n
       · subst e;assumption
       · exact yf l k n p h1 (by omega)
theorem Cn {l : List Int} (hr : ∀ y ∈ l, 0 ≤ y) (k n : Nat) : vo (yh l k) n = vo l n := by
 have e:l=yh l k++l.drop (vC l k l.length):=(List.take_append_drop _ _).symm
 have z:((l.drop (vC l k l.length)).map (f15 n)).sum=0:=by
  have:∀q:List Int,(∀y∈q,y=0)→(q.map (f15 n)).sum=0:=by
   intro q
   induction q with
   |nil=>intro _;rfl
   | cons x q ih =>
     intro h
     rw[R3,Sl,ih fun y hy=>h y (by simp [hy]),h x (by simp)]
     unfold f15;simp
  refine this _ fun y hy=> ?_
  obtain⟨j,hj⟩:=uM.1 hy
  rw[uL]at hj
  have hl:=(uu.1 hj).1
  have:=yf l k l.length (vC l k l.length+j) (by omega) hl
  rw[RT,hj]at this
  have:=hr y (List.mem_of_mem_drop hy)
  simp at *
  omega
 rw[zL,zL]
 have:(l.map (f15 n)).sum=((yh l k).map (f15 n)).sum:=by
  conv=>lhs;rw[e]
  rw[List.map_append,List.sum_append,z,Nat.add_zero]
 rw[this]
theorem La {l:List Int} (k:Nat) {p:Nat} (h:0<l.getD p 0):p<(yh l k).length∧(yh l k).getD p 0=l.getD p 0:=by
 have hp:p<l.length:=by
  apply Se
  intro c
  rw[RT,R8 (by omega)]at h
  simp at h
 have:p<vC l k l.length:=by
  apply Se
  intro c
  exact yf l k l.length p (by omega) hp h
 unfold yh
 refine⟨by rw[Su];omega, ?_⟩
 rw[RT,uT,if_pos this,←RT]
theorem xD {l:List Int} (h1:1≤l.length) (h2:l.length≤288) (hr:∀y∈l,0≤y∧y<16) (h:0≤vo l 15):vp l=if vo l 15=0 then 0 else 302:=by
 have hm:Ah l=true:=by
  unfold Ah
  have:(ints l).any EM=false:=by
   rw[List.any_eq_false]
   intro x hx
   obtain⟨y,hy,rfl⟩:=R4.1 hx
   have:=hr y hy
   simp [EM,I];omega
  rw[this];simp;omega
 unfold vp
 rw[if_neg (by rw[hm];simp),if_neg (by omega)]
 split
 · rw[if_neg (by omega)]
 · rw[if_pos (by omega)]
theorem GH (s:ByteArray) (i j:Nat):∀f k,(∀m,m<k→xH s (i+m)=xH s (j+m))→∀m,m<yd s i j f k→xH s (i+m)=xH s (j+m)
 |0,k,h=>by simpa [yd]using h
 | f + 1, k, h => by
   unfold yd
   split
   · rename_i q
     refine GH s i j f (k+1) fun m hm=> ?_
     by_cases e:m=k
     · subst e;exact q.2.2
     · exact h m (by omega)
   · exact h
theorem zY (s:ByteArray) (i:Nat) (hi:i≤s.size):∀(n:Nat) (b:Nat×Nat),n≤i→(b.1=0∨(b.1≤258∧1≤b.2∧b.2≤i∧i+b.1≤s.size∧∀m,m<b.1→xH s (i+m)=xH s (i-b.2+m)))→
 ((vK s i n b).1=0∨((vK s i n b).1≤258∧1≤(vK s i n b).2∧(vK s i n b).2≤i∧i+(vK s i n b).1≤s.size∧∀m,m<(vK s i n b).1→xH s (i+m)=xH s (i-(vK s i n b).2+m)))
 |0,b,hn,h=>h
 | n + 1, b, hn, h => by
   unfold vK
   refine zY s i hi n _ (by omega) ?_
   split
   · right
     refine⟨Il s i n,by show 1≤i-n;omega,by show i-n≤i;omega,Eu s i n hi,fun m hm=> ?_⟩
     have:=GH s i n 258 0 (fun m hm=>by omega) m hm
     have e:i-(i-n)=n:=by omega
     show xH s (i+m)=xH s (i-(i-n)+m)
     rw[e];exact this
   · exact h
def preB (s:ByteArray) (i:Nat):List Nat:=(List.range i).map (xH s)
theorem wJ (s:ByteArray) (i:Nat):(preB s i).length=i:=by simp [preB]
theorem zM (s:ByteArray) (i:Nat):preB s (i+1)=preB s i++[xH s i]:=by simp [preB,List.range_succ]
theorem GB (s:ByteArray) {i j:Nat} (h:j<i):(preB s i).getD j 0=xH s j:=by
 rw[RT,preB,uJ,So h];rfl
theorem HQ (s:ByteArray) {d:Nat} (hd:1≤d):∀(n i:Nat),d≤i→(∀m,m<n→xH s (i+m)=xH s (i-d+m))→IP d n (preB s i)=preB s (i+n)
 |0,i,h,_=>rfl
 | n + 1, i, h, hm => by
   have e0:=hm 0 (by omega)
   simp only[Nat.add_zero]at e0
   rw[IP,wJ,GB s (by omega),←e0,←zM,HQ s hd n (i+1) (by omega) fun m h2=>by
    have:=hm (m+1) (by omega)
    have a1:i+(m+1)=i+1+m:=by omega
    have a2:i-d+(m+1)=i+1-d+m:=by omega
    rw[a1,a2]at this;exact this]
   congr 1;omega
theorem HE (s:ByteArray) {i:Nat} (hi:i<s.size):((wC s i).1.len=0∧(wC s i).1.lit=xH s i∧(wC s i).1.vL=0∧(wC s i).2=i+1)∨
 (∃L D:Nat,(wC s i).1.len=L∧(wC s i).1.vL=D∧(wC s i).1.lit=0∧3≤L∧L≤258∧1≤D∧D≤i∧(wC s i).2=i+L∧i+L≤s.size∧∀m,m<L→xH s (i+m)=xH s (i-D+m)):=by
 unfold wC
 split
 · exact .inl ⟨rfl,rfl,rfl,rfl⟩
 · rename_i c
   right
   rcases zY s i (by omega) i (0,0) (uy _) (.inl rfl)with h|⟨h1,h2,h3,h4,h5⟩
   · omega
   · exact⟨_,_,rfl,rfl,rfl,by omega,h1,h2,h3,rfl,h4,h5⟩
theorem yK (s : ByteArray) (hs : s.size ≤ 300) : ∀ (f i : Nat), s.size - i ≤ f → i ≤ s.size → (zF s f i).length ≤ s.size - i ∧ (∀ t ∈ zF s f i, xL t) ∧ vy i (zF s f i) = true ∧ xn (zF s f i) (preB s i) = preB s s.size
 | 0, i, hf, hi => by
   have:i=s.size:=by omega
   subst this
   simp [zF,vy,xn]
 | f + 1, i, hf, hi => by
   rw[zF]
   split
   · rename_i c
     have lt:=GV s i
     have le:=GU s i c
     obtain⟨i1,i2,i3,i4⟩:=yK s hs f (wC s i).2 (by omega) le
     have sp:=HE s c
     refine⟨by rw[RU];omega, ?_, ?_, ?_⟩
     · intro t ht
       rcases uR.1 ht with q|q
       · subst q
         rcases sp with ⟨a,b,_,_⟩|⟨L,D,a,b,_,c1,c2,c3,c4,_,_,_⟩
         · have:=Bh s i
           exact .inl ⟨a,by omega,by omega⟩
         · exact .inr ⟨by omega,by omega,by omega,by omega⟩
       · exact i2 t q
     · rw [vy]
       rcases sp with ⟨a,b,c0,d⟩|⟨L,D,a,b,c0,c1,c2,c3,c4,d,e,_⟩
       · have hb:=Bh s i
         have st:v7 (i:Int) (wC s i).1=some ((i:Int)+1):=by
          unfold v7
          rw[if_pos a,if_neg (by omega)]
         rw[st]
         simp only
         rw[if_neg (by omega)]
         have e:(((wC s i).2:Nat):Int)=(i:Int)+1:=by omega
         rw[←e];exact i3
       · have st:v7 (i:Int) (wC s i).1=some ((i:Int)+L):=by
          unfold v7
          rw[if_neg (by omega),if_neg (by omega),a]
         rw[st]
         simp only
         rw[if_neg (by omega)]
         have e':(((wC s i).2:Nat):Int)=(i:Int)+L:=by omega
         rw[←e'];exact i3
     · rw [xn]
       rcases sp with ⟨a,b,c0,d⟩|⟨L,D,a,b,c0,c1,c2,c3,c4,d,e,g⟩
       · have:vG (preB s i) (wC s i).1=preB s (wC s i).2:=by
          unfold vG
          rw[if_pos a,b,d,zM];rfl
         rw[this];exact i4
       · have:vG (preB s i) (wC s i).1=preB s (wC s i).2:=by
          unfold vG
          rw[if_neg (by omega),a,b,d]
          exact HQ s c3 L i c4 g
         rw[this];exact i4
   · have:i=s.size:=by omega
     subst this
     simp [vy,xn]
theorem CK (s:ByteArray) (hs:s.size≤300):DI (tokens s)=true:=by
 obtain⟨_,_,h3,h4⟩:=yK s hs s.size 0 (by omega) (by omega)
 unfold DI yk tokens
 have h3':vy 0 (zF s s.size 0)=true:=h3
 rw[if_pos h3']
 have:xn (zF s s.size 0) []=preB s s.size:=h4
 rw[this]
 simp only[vZ,wJ]
 simpa using hs
theorem CR (l:List Int) (i p:Nat):l.getD p 0≤(wR l i).getD p 0:=by
 unfold wR
 by_cases e:i=p
 · subst e
   by_cases h:i<l.length
   · rw[RT (l:=l.set i _),Sa,if_pos rfl,if_pos h]
     show l.getD i 0≤l.getD i 0+1
     omega
   · rw[List.set_eq_of_length_le (by omega)];exact Ss _
 · rw[getD_set_ne e];exact Ss _
theorem AR {l:List Int} {i:Nat} (h:i<l.length):(wR l i).getD i 0=l.getD i 0+1:=by
 unfold wR
 rw[RT (l:=l.set i _),Sa,if_pos rfl,if_pos h];rfl
theorem AD:∀(ts:List Tok) (A:List Int) (p:Nat),A.getD p 0≤(ze ts A).getD p 0
 |[],A,p=>Ss _
 | t :: r, A, p => by
   rw[ze]
   refine Int.le_trans ?_ (AD r _ p)
   split<;>exact CR _ _ _
theorem FP:∀(ts:List Tok) (A:List Int) (p:Nat),A.getD p 0≤(zT ts A).getD p 0
 |[],A,p=>Ss _
 | t :: r, A, p => by
   rw[zT]
   refine Int.le_trans ?_ (FP r _ p)
   split
   · exact Ss _
   · exact CR _ _ _
theorem FR:∀(ts:List Int) (A:List Int) (p:Nat),A.getD p 0≤(xc ts A).getD p 0
 |[],A,p=>Ss _
 | t :: r, A, p => by
   rw[xc]
   exact Int.le_trans (CR _ _ _) (FR r _ p)
theorem A4 {A:List Int} (h:∀y∈A,0≤y) (p:Nat):0≤A.getD p 0:=by
 rw[RT]
 cases e:A[p]? with
 |none=>simp
 |some y=>exact h y (uE e)
theorem Hq {A:List Int} (h:∀y∈A,0≤y) (i:Nat):∀y∈wR A i,0≤y:=by
 intro y hy
 rcases Sq hy with q|q
 · exact h y q
 · have:=A4 h i;omega
theorem FO : ∀ (ts : List Tok) (A : List Int), (∀ y ∈ A, 0 ≤ y) → A.length = 286 → ∀ t ∈ ts, xL t → (t.len = 0 → 1 ≤ (ze ts A).getD t.lit.toNat 0) ∧ (t.len ≠ 0 → 1 ≤ (ze ts A).getD (xp t.len.toNat) 0)
 |[],A,_,_,t,h,_=>by simp at h
 | u :: r, A, hA, hl, t, h, o => by
   rw[ze]
   rcases uR.1 h with q|q
   · subst q
     refine⟨fun h0=> ?_,fun h0=> ?_⟩
     · rw[if_pos h0]
       refine Int.le_trans ?_ (AD r _ _)
       rcases o with ⟨_,b,c⟩|⟨a,_⟩
       · rw[AR (by omega)]
         have:=A4 hA t.lit.toNat;omega
       · omega
     · rw[if_neg h0]
       refine Int.le_trans ?_ (AD r _ _)
       rcases o with ⟨a,_⟩|⟨a,b,_⟩
       · exact absurd a h0
       · have:=xU (k:=t.len.toNat) (by omega) (by omega)
         rw[AR (by omega)]
         have:=A4 hA (xp t.len.toNat);omega
   · exact FO r _ (by split<;>exact Hq hA _) (by split<;>rw[xf,hl]) t q o
theorem FQ : ∀ (ts : List Tok) (A : List Int), (∀ y ∈ A, 0 ≤ y) → A.length = 30 → ∀ t ∈ ts, xL t → t.len ≠ 0 → 1 ≤ (zT ts A).getD (xI t.vL.toNat) 0
 |[],A,_,_,t,h,_,_=>by simp at h
 | u :: r, A, hA, hl, t, h, o, h0 => by
   rw[zT]
   rcases uR.1 h with q|q
   · subst q
     rw[if_neg h0]
     refine Int.le_trans ?_ (FP r _ _)
     rcases o with ⟨a,_⟩|⟨a,b,c,d⟩
     · exact absurd a h0
     · have:=xQ (k:=t.vL.toNat) (by omega) (by omega)
       rw[AR (by omega)]
       have:=A4 hA (xI t.vL.toNat);omega
   · refine FQ r _ ?_ ?_ t q o h0
     · split
       · exact hA
       · exact Hq hA _
     · split
       · exact hl
       · rw[xf,hl]
theorem CE:∀(ds:List Int) (A:List Int),(∀y∈A,0≤y)→A.length=19→∀y∈ds,0≤y∧y<19→1≤(xc ds A).getD y.toNat 0
 |[],A,_,_,t,h,_=>by simp at h
 | u :: r, A, hA, hl, t, h, o => by
   rw[xc]
   rcases uR.1 h with q|q
   · subst q
     refine Int.le_trans ?_ (FR r _ _)
     rw[AR (by omega)]
     have:=A4 hA t.toNat;omega
   · exact CE r _ (Hq hA _) (by rw[xf,hl]) t q o
theorem yW (n:Nat):∀y∈List.replicate n (0:Int),0≤y∧y≤0:=fun y hy=>by have:=Sm hy;omega
theorem HS (ts:List Tok) (hn:ts.length≤300):(dA ts).length=286∧(∀y∈dA ts,0≤y∧y≤2147483647)∧1≤(dA ts).getD 256 0:=by
 have z:∀y∈(List.replicate 286 (0:Int)).set 256 1,0≤y∧y≤1:=fun y hy=>by
  rcases Sq hy with q|q
  · have:=Sm q;omega
  · omega
 refine⟨by unfold dA;rw[Cy,Sg,R9],fun y hy=> ?_, ?_⟩
 · have:=Cz ts _ 1 (by omega) z y hy;omega
 · have h:((List.replicate 286 (0:Int)).set 256 1).getD 256 0=1:=by decide
   have:=AD ts ((List.replicate 286 0).set 256 1) 256
   rw[h]at this
   exact this
theorem HT (ts:List Tok) (hn:ts.length≤300):(dB ts).length=30∧(∀y∈dB ts,0≤y∧y≤2147483647):=by
 refine⟨by unfold dB;rw[CC,R9],fun y hy=> ?_⟩
 have:=CD ts _ 0 (by omega) (yW 30) y hy;omega
theorem J8 {ts:List Tok} {la lb:List Int} {t:Tok} (o:xL t) (hA:t.len=0→Ay (uX la) t.lit.toNat) (hL:t.len≠0→Ay (uX la) (xp t.len.toNat)) (hB:t.len≠0→Ay (uX lb) (xI t.vL.toNat)):GY (uX la) (uX lb) t:=by
 rcases o with ⟨a,b,c⟩|⟨a,b,c,d⟩
 · exact .inl ⟨a,b,hA a⟩
 · exact .inr ⟨a,b,c,d,hL (by omega),hB (by omega)⟩
theorem CJ {C l:List Int} {K k m:Nat} (hC:∀y∈C,0≤y∧y≤2147483647) (h2:2≤C.length) (hl:C.length≤288) (hk:k≤C.length) (hk1:1≤k) (r:wP 15 K (wG C)) (e:l=yh (vV C K) k):
 (k≤l.length∧l.length≤C.length)∧(∀y∈l,0≤y∧y<16)∧(vp l=0∨vp l=302)∧(∀p,0<C.getD p 0→Ay (uX l) p)∧0≤vo l 15:=by
 obtain⟨f1,f2,f3,f4,f5⟩:=xR hC h2 hl (by omega) r
 have ug:=wD (vV C K) k (vV C K).length
 have ll:l.length=vC (vV C K) k (vV C K).length:=by rw[e];exact AK _ (by omega)
 have hr:∀y∈l,0≤y∧y<16:=fun y hy=>by
  rw[e]at hy
  have:=f2 y (List.mem_of_mem_take hy)
  omega
 have lc:vo l 15=vo (vV C K) 15:=by rw[e];exact Cn (fun y hy=>(f2 y hy).1) k 15
 have l0:0≤vo l 15:=by
  rw[lc]
  by_cases c:∃y∈C,0<y
  · rw[f4 c];omega
  · rw[f5 fun y hy q=>c ⟨y,hy,q⟩]
    rw[zL,List.map_replicate]
    have:f15 15 0=0:=rfl
    rw[this];simp
 have ck:=xD (l:=l) (by omega) (by omega) hr l0
 refine⟨by omega,hr, ?_,fun p hp=> ?_,l0⟩
 · rw[ck];split
   · exact .inl rfl
   · exact .inr rfl
 · have g:=f3 p hp
   obtain⟨c1,c2⟩:=La k (show 0<(vV C K).getD p 0 by omega)
   rw[←e]at c1 c2
   exact E6 l0 hr c1 (by omega)
theorem Lh {ts:List Tok} (hn:ts.length≤300) (HX:DI ts=true) (t2:∀t∈ts,xL t):∃KA KB KC la lb Lc,Az ts KA KB KC la lb Lc:=by
 obtain⟨a1,a2,a3⟩:=HS ts hn
 obtain⟨b1,b2⟩:=HT ts hn
 obtain⟨KA,rA⟩:=zo (most:=15) a2 (by omega) (by omega) (.inl (by omega))
 obtain⟨KB,rB⟩:=zo (most:=15) b2 (by omega) (by omega) (.inl (by omega))
 obtain⟨la,ea⟩:∃l,l=yh (vV (dA ts) KA) 257:=⟨_,rfl⟩
 obtain⟨lb,eb⟩:∃l,l=yh (vV (dB ts) KB) 1:=⟨_,rfl⟩
 obtain⟨x1,x2,x3,x4,x5⟩:=CJ (m:=0) a2 (by omega) (by omega) (by omega) (by omega) rA ea
 obtain⟨y1,y2,y3,y4,y5⟩:=CJ (m:=0) b2 (by omega) (by omega) (by omega) (by omega) rB eb
 have hall:∀y∈la++lb,0≤y∧y<19:=fun y hy=>by
  rcases Sj.1 hy with q|q
  · have:=x2 y q;omega
  · have:=y2 y q;omega
 have c1:(xc (la++lb) (List.replicate 19 0)).length=19:=by rw[AE,R9]
 have c2:∀y∈xc (la++lb) (List.replicate 19 0),0≤y∧y≤2147483647:=fun y hy=>by
  have:=AF (la++lb) _ 0 (by omega) (yW 19) y hy
  rw[uU]at this
  omega
 obtain⟨KC,rC⟩:=zo (most:=7) c2 (by omega) (by omega) (.inr (by omega))
 obtain⟨f1,f2,f3,f4,f5⟩:=xR c2 (by omega) (by omega) (by omega) rC
 have hit:=CE (la++lb) (List.replicate 19 0) (fun y hy=>(yW 19 y hy).1) (by rw[R9])
 have ex:∃y∈xc (la++lb) (List.replicate 19 0),0<y:=by
  obtain⟨z,hz⟩:=List.exists_mem_of_ne_nil (la++lb) (fun q=>by
   have:=Sn List.length q
   rw[uU,RX]at this
   omega)
  have h:=hit z hz (hall z hz)
  refine⟨_, ?_,show 0<(xc (la++lb) (List.replicate 19 0)).getD z.toNat 0 by omega⟩
  have zl:z.toNat<(xc (la++lb) (List.replicate 19 0)).length:=by have:=hall z hz;omega
  rw[RT,RW zl]
  exact Sb zl
 have l0:=f4 ex
 have r16:∀y∈vV (xc (la++lb) (List.replicate 19 0)) KC,0≤y∧y<16:=fun y hy=>by have:=f2 y hy;omega
 refine⟨KA,KB,KC,la,lb,_,⟨HX,hn,t2,rA,rB,ea,eb,hall,rC,rfl,fun y hy=>by have:=f2 y hy;omega,x3,y3, ?_, ?_, ?_, ?_⟩⟩
 · have:=xD (by omega) (by omega) r16 (by omega)
   rw[this,if_pos l0];exact .inl rfl
 · intro y hy
   have h:=hit y hy (hall y hy)
   have g:=f3 y.toNat (by omega)
   exact E6 (by omega) r16 (by have:=hall y hy;omega) g
 · intro t ht
   have o:=t2 t ht
   have zA:∀y∈(List.replicate 286 (0:Int)).set 256 1,0≤y:=fun y hy=>by
    rcases Sq hy with q|q
    · have:=Sm q;omega
    · omega
   have hA:=FO ts _ zA (by rw[Sg,R9]) t ht o
   have hB:=FQ ts (List.replicate 30 0) (fun y hy=>(yW 30 y hy).1) (by rw[R9]) t ht o
   exact J8 (ts:=ts) o (fun h0=>x4 _ (by have:=hA.1 h0;unfold dA;omega)) (fun h0=>x4 _ (by have:=hA.2 h0;unfold dA;omega)) (fun h0=>y4 _ (by have:=hB h0;unfold dB;omega))
 · exact x4 256 (by omega)
theorem Hg (s:ByteArray) (hs:s.size≤300):∃KA KB KC la lb Lc,Az (tokens s) KA KB KC la lb Lc:=by
 obtain⟨t1,t2,t3,t4⟩:=yK s hs s.size 0 (by omega) (by omega)
 change (tokens s).length≤s.size-0 at t1
 exact Lh (by omega) (CK s hs) t2
theorem I9:∀bs:List Nat,(∀b∈bs,b≤1)→KQ (vB bs):=by
 have:∀(l:List Nat) (i:Nat) (out:List Nat),(∀b∈l,b≤1)→KQ out→KQ (wS l i out):=by
  intro l
  induction l with
  |nil=>intro i out _ h;exact h
  |cons x l ih=>intro i out hl h;exact ih (i+1) _ (fun b hb=>hl b (by simp [hb])) (B3 (hl x (by simp)) h)
 exact fun bs h=>this bs 0 [] h fun _ q=>by simp at q
theorem xy (v:Nat):∀m,∀b∈xX v m,b≤1
 |0,b,h=>by simp [xX]at h
 | m + 1, b, h => by
   rw[xX]at h
   rcases uR.1 h with q|q
   · omega
   · exact xy v m b q
theorem wB (v:Nat):∀m i,∀b∈BC v i m,b≤1
 |0,i,b,h=>by simp [BC]at h
 | m + 1, i, b, h => by
   rw[BC]at h
   rcases uR.1 h with q|q
   · omega
   · exact wB v m (i+1) b q
theorem Cd (E D:List (Int×Int)) (t:Tok):∀b∈vE E D t,b≤1:=by
 intro b h
 unfold vE u7 vh at h
 split at h
 · exact xy _ _ b h
 · simp only[Sj]at h
   rcases h with h|h|h|h
   · exact xy _ _ b h
   · exact wB _ _ _ b h
   · exact xy _ _ b h
   · exact wB _ _ _ b h
theorem Lg (ts:List Tok) (la lb Lc:List Int):∀b∈vR ts la lb Lc,b≤1:=by
 intro b h
 unfold vR at h
 simp only[Sj]at h
 rcases h with h|h|h|h|h|h|h|h
 · exact wB _ _ _ b h
 · exact wB _ _ _ b h
 · exact wB _ _ _ b h
 · exact wB _ _ _ b h
 · obtain⟨y,_,hy⟩:=List.mem_flatMap.1 h
   exact wB _ _ _ b hy
 · obtain⟨y,_,hy⟩:=List.mem_flatMap.1 h
   exact xy _ _ b hy
 · obtain⟨y,_,hy⟩:=List.mem_flatMap.1 h
   exact Cd _ _ y b hy
 · exact xy _ _ b h
def yo (t:ByteArray) (p:Nat) (bs:List Nat):Prop:=p+bs.length≤8* t.size∧∀i,i<bs.length→wQ t (p+i)=bs.getD i 0
theorem yo.app {t:ByteArray} {p:Nat} {a b:List Nat} (h:yo t p (a++b)):yo t p a∧yo t (p+a.length) b:=by
 obtain⟨h1,h2⟩:=h
 rw[uU]at h1 h2
 refine⟨⟨by omega,fun i hi=> ?_⟩,⟨by omega,fun i hi=> ?_⟩⟩
 · have:=h2 i (by omega)
   rw[this,RT,RT,R5 hi]
 · have:=h2 (a.length+i) (by omega)
   rw[ux,this,RT,RT,R6 (by omega),Nat.add_sub_cancel_left]
theorem DR (l:List Nat) (h:KQ l) (i:Nat):(((bytesOf l)[i]?).map (·.toNat)).getD 0=l.getD i 0:=by
 have e:(bytesOf l)[i]?=(l.map UInt8.ofNat)[i]?:=by
  show(l.map UInt8.ofNat).toArray[i]?=_
  simp
 rw[e,uJ,RT]
 cases hx:l[i]? with
 |none=>rfl
 | some x =>
   have:=h x (uE hx)
   simp [UInt8.toNat_ofNat_of_lt' this]
theorem Jz {x b k j:Nat} (hb:b≤1) (hx:x<2^k):(x|||b* 2^k)/2^j%2=if j=k then b else x/2^j%2:=by
 rw[←Nat.toNat_testBit,←Nat.toNat_testBit,Nat.testBit_or]
 have hb':b=0∨b=1:=by omega
 rcases hb' with rfl|rfl
 · rw[Nat.zero_mul,Nat.zero_testBit,Bool.or_false]
   split
   · rename_i e;subst e
     rw[Nat.testBit_lt_two_pow hx];rfl
   · rfl
 · rw[Nat.one_mul,Nat.testBit_two_pow]
   split
   · rename_i e;subst e;simp
   · rename_i e
     have:decide (k=j)=false:=by simp;omega
     rw[this,Bool.or_false]
structure Ix (out:List Nat) (bs:List Nat):Prop where
 len:out.length=(bs.length+7)/8
 bit:∀j,j<bs.length→out.getD (j/8) 0/2^(j%8)%2=bs.getD j 0
 top:bs.length%8≠0→out.getD (bs.length/8) 0<2^(bs.length%8)
theorem Ix.step {out bs : List Nat} {b : Nat} (hb : b ≤ 1) (v : Ix out bs) : Ix (vS out bs.length b) (bs ++ [b]) := by
 obtain⟨len,bit,top⟩:=v
 obtain⟨n,hn⟩:∃n,n=bs.length:=⟨_,rfl⟩
 rw[←hn]at len bit top ⊢
 obtain⟨o,ho⟩:∃o,o=if n%8=0 then out++[0]else out:=⟨_,rfl⟩
 have es:vS out n b=o.set (n/8) (o.getD (n/8) 0|||b* 2^(n%8)):=by rw[ho];rfl
 have ol:n/8<o.length:=by
  rw[ho];split
  · rw[uU,len];simp;omega
  · rw[len];omega
 have og:∀j,j<n→o.getD (j/8) 0=out.getD (j/8) 0:=fun j hj=>by
  rw[ho];split
  · rw[RT,R5 (by omega),←RT]
  · rfl
 have ox:o.getD (n/8) 0<2^(n%8):=by
  by_cases c:n%8=0
  · rw[ho,if_pos c,RT,R6 (by omega),c]
    have:n/8-out.length=0:=by omega
    rw[this];simp
  · rw[ho,if_neg c];exact top c
 have gn:∀m,(vS out n b).getD m 0=if m=n/8 then o.getD (n/8) 0|||b* 2^(n%8)else o.getD m 0:=fun m=>by
  rw[es]
  by_cases e:m=n/8
  · subst e
    rw[if_pos rfl,RT,Sa,if_pos rfl,if_pos ol];rfl
  · rw[if_neg e,getD_set_ne (fun q=>e q.symm)]
 have bl:(bs++[b]).length=n+1:=by simp [hn]
 refine⟨by rw[bl,B4 len],fun j hj=> ?_,fun hc=> ?_⟩
 · rw [bl] at hj
   rw[gn]
   by_cases e:j=n
   · subst e
     rw[if_pos rfl,Jz hb ox,if_pos rfl,RT,hn,R6 (uy _)];simp
   · have hjn:j<n:=by omega
     have gb:(bs++[b]).getD j 0=bs.getD j 0:=by rw[RT,R5 (by omega),←RT]
     rw[gb,←bit j hjn,←og j hjn]
     split
     · rename_i e2
       rw[Jz hb ox,if_neg (by omega),e2]
     · rfl
 · rw[bl]at hc ⊢
   have e8:(n+1)/8=n/8:=by omega
   have m8:(n+1)%8=n%8+1:=by omega
   rw[gn,e8,if_pos rfl,m8,Ka ox,Nat.pow_succ]
   have:b* 2^(n%8)≤1* 2^(n%8):=uD _ hb
   omega
theorem Ja:∀bs:List Nat,(∀b∈bs,b≤1)→Ix (vB bs) bs:=by
 have key:∀(q p:List Nat) (out:List Nat),(∀b∈q,b≤1)→Ix out p→Ix (wS q p.length out) (p++q):=by
  intro q
  induction q with
  |nil=>intro p out _ h;simpa [wS]using h
  | cons x q ih =>
    intro p out hb h
    have:=ih (p++[x]) (vS out p.length x) (fun b q=>hb b (by simp [q])) (h.step (hb x (by simp)))
    rw[uU,R7]at this
    exact this
 intro bs hb
 exact key bs [] [] hb ⟨rfl,fun j hj=>by simp at hj,fun h=>by simp at h⟩
theorem Bg (bs:List Nat) (hb:∀b∈bs,b≤1):yo (bytesOf (vB bs)) 0 bs:=by
 have v:=Ja bs hb
 have y:=I9 bs hb
 refine⟨by rw[vZ,v.len];omega,fun i hi=> ?_⟩
 rw[uF]
 unfold wQ
 rw[DR _ y]
 exact v.bit i hi
theorem Iv {t:ByteArray} {p:Nat} {v:Nat}:∀(n:Nat),(∀i,i<n→wQ t (p+i)=v/2^i%2)→u0 t p n=v%2^n
 |0,h=>by simp [u0,Nat.mod_one]
 | n + 1, h => by
   rw[u0,Iv n fun i hi=>h i (by omega),h n (by omega),Nat.pow_succ,Nat.mod_mul,Nat.mul_comm]
theorem GC (v:Nat):∀m i j,j<m→(BC v i m).getD j 0=v/2^(i+j)%2
 |0,i,j,h=>by omega
 |m+1,i,0,h=>rfl
 | m + 1, i, j + 1, h => by
   show(BC v (i+1) m).getD j 0=_
   rw[GC v m (i+1) j (by omega)]
   congr 3;omega
theorem yo.put {t:ByteArray} {p v n:Nat} (h:yo t p (vh v n)) (hv:v<2^n):u0 t p n=v∧p+n≤8* t.size:=by
 obtain⟨h1,h2⟩:=h
 unfold vh at h1 h2
 rw[vt]at h1 h2
 refine⟨?_,h1⟩
 rw[Iv n fun i hi=>by rw[h2 i hi,GC v n 0 i hi,uF],Nat.mod_eq_of_lt hv]
theorem GS (n:Nat):∀(q p:List Int),∃r,syms (p++q) n=syms p n++r
 |[],p=>⟨[],by simp⟩
 | x :: q, p => by
   obtain⟨r,hr⟩:=GS n q (p++[x])
   rw[R7,zS]at hr
   exact⟨_,by rw[show p++x::q=p++([x]++q)by simp,hr,R7]⟩
theorem Is {l:List Int} {s n:Nat} (hs:s<l.length) (hn:1≤n) (e:l.getD s 0=(n:Int)):(syms l n)[wK (l.take s) n]?=some (s:Int):=by
 have e2:l.take (s+1)=l.take s++[l.getD s 0]:=by
  rw[List.take_add_one,RW hs,RT,RW hs];rfl
 obtain⟨r,hr⟩:=GS n (l.drop (s+1)) (l.take (s+1))
 rw[List.take_append_drop,e2,zS,if_pos ⟨by omega,e⟩]at hr
 have ls:=zE (l.take s) n
 have lt:(l.take s).length=s:=by rw[Su];omega
 rw[hr,R7,R6 (by omega),ls,Nat.sub_self,lt];rfl
theorem BS (l:List Int) (n:Nat):∀m,(ve l n+wK l n)* 2^(m+1)≤ve l (n+m+1)
 |0=>by rw[ve];simp
 | m + 1 => by
   have ih:=BS l n m
   rw[show n+(m+1)+1=(n+m+1)+1 by omega,ve,Int.pow_succ,←Int.mul_assoc]
   omega
theorem Lj {l:List Int} {n m:Nat} {c:Nat} (hc:ve l (n+m+1)≤(c:Int)):xw l n ((c/2^(m+1):Nat):Int)=none:=by
 have g:=BS l n m
 have h1:ve l n+wK l n≤((c/2^(m+1):Nat):Int):=by
  have p2:((2^(m+1):Nat):Int)=(2:Int)^(m+1):=by push_cast;rfl
  have:(ve l n+wK l n)* ((2^(m+1):Nat):Int)≤(c:Int):=by rw[p2];omega
  rw[Int.natCast_ediv]
  exact(Int.le_ediv_iff_mul_le (by have:=Nat.pow_pos (n:=m+1) (show 0<2 by omega);omega)).2 this
 unfold xw
 split
 · rw[R8]
   rw[zE];omega
 · rfl
theorem GN {t : ByteArray} {l : List Int} {s N c : Nat} (hs : s < l.length) (hN : 1 ≤ N) (e : l.getD s 0 = (N : Int)) (hc : (c : Int) = ve l N + wK (l.take s) N) : ∀ (m n k p : Nat), n + m = N → m + 1 ≤ k → yo t p (xX c (m + 1)) → wY t l k n (c / 2 ^ (m + 1)) p = some ((s : Int), p + (m + 1))
 |m,n,0,p,hn,hk,hb=>by omega
 | m, n, k + 1, p, hn, hk, hb => by
   have hb1:yo t p ([c/2^m%2]++xX c m):=hb
   obtain⟨b1,b2⟩:=hb1.app
   have v1:u0 t p 1=c/2^m%2:=by
    have:=b1.2 0 (by simp)
    simp only[Nat.add_zero,List.getD_cons_zero]at this
    simp [u0,this]
   have pl:p+1≤8* t.size:=b1.1
   have vv:c/2^(m+1)* 2+c/2^m%2=c/2^m:=by
    rw[Nat.pow_succ,←Nat.div_div_eq_div_mul];omega
   rw[wY,if_pos pl,v1,vv]
   cases m with
   | zero =>
     have:xw l n ((c/2^0:Nat):Int)=some (s:Int):=by
      have hn':n=N:=by omega
      subst hn'
      unfold xw
      rw[Nat.pow_zero,Nat.div_one,if_pos (by omega)]
      have:((c:Int)-ve l n).toNat=wK (l.take s) n:=by omega
      rw[this]
      exact Is hs hN e
     rw[this]
   | succ m =>
     have:xw l n ((c/2^(m+1):Nat):Int)=none:=Lj (by rw[show n+m+1=N by omega];omega)
     rw[this]
     have r:=GN hs hN e hc m (n+1) k (p+1) (by omega) (by omega) b2
     rw[r]
     simp only[um,uq,true_and];omega
theorem KJ {t:ByteArray} {l:List Int} (hl:0≤vo l 15) (hr:∀y∈l,0≤y∧y<16) {s p:Nat} (hs:s<l.length) (h1:1≤l.getD s 0) (hb:yo t p (u7 (uX l) s)):wY t l 15 1 0 p=some ((s:Int),p+(u7 (uX l) s).length):=by
 obtain⟨n,v,g,n1,n2,n3,n4⟩:=(E6 hl hr hs h1).bits
 have g2:(uX l)[s]?=some (yz l s):=by
  unfold uX
  rw[uJ,So hs];rfl
 rw[g2]at g
 have g3:=uh g
 unfold yz at g3
 rw[if_pos h1]at g3
 have e1:l.getD s 0=(n:Int):=Sn Prod.fst g3
 have e2:ve l (l.getD s 0).toNat+wK (l.take s) (l.getD s 0).toNat=(v:Int):=Sn Prod.snd g3
 have tn:((n:Nat):Int).toNat=n:=by omega
 rw[e1,tn]at e2
 rw[n4]at hb ⊢
 rw[wc]
 obtain⟨m,rfl⟩:∃m,n=m+1:=⟨n-1,by omega⟩
 have:=GN hs n1 e1 e2.symm m 1 15 p (by omega) (by omega) hb
 rw[Nat.div_eq_of_lt n3]at this
 exact this
theorem E5 {l:List Int} {s:Nat} (o:Ay (uX l) s):s<l.length∧1≤l.getD s 0:=by
 have hs:s<l.length:=by have:=o.lt;rwa [yS]at this
 obtain⟨n,v,g,n1,_⟩:=o
 have g2:(uX l)[s]?=some (yz l s):=by
  unfold uX
  rw[uJ,So hs];rfl
 rw[g2]at g
 have g3:=uh g
 unfold yz at g3
 refine⟨hs, ?_⟩
 apply Se
 intro c
 rw[if_neg c]at g3
 have:=Sn Prod.fst g3
 simp at this
 omega
theorem DT {most:Int} (d:Nat):∀(n:Nat) (out:List Nat),(out.length:Int)+n≤most→w9 most d n out=.ok (IP d n out)
 |0,out,h=>rfl
 | n + 1, out, h => by
   rw[w9,if_neg (by omega),IP]
   exact DT d n _ (by simp;omega)
structure Bf (l:List Int):Prop where
 left:0≤vo l 15
 OA:∀y∈l,0≤y∧y<16
theorem Bf.sym {l:List Int} (b:Bf l) {t:ByteArray} {s p:Nat} (o:Ay (uX l) s) (hb:yo t p (u7 (uX l) s)):wY t l 15 1 0 p=some ((s:Int),p+(u7 (uX l) s).length):=
 KJ b.left b.OA (E5 o).1 (E5 o).2 hb
theorem FY (o:List Nat) (t:Tok):o.length≤(vG o t).length:=by
 unfold vG
 split
 · simp
 · rw[Cm];omega
theorem FZ:∀(ts:List Tok) (o:List Nat),o.length≤(xn ts o).length
 |[],o=>uy _
 |t::r,o=>uS (FY o t) (FZ r _)
theorem z7 {t : ByteArray} {la lb : List Int} (bA : Bf la) (bB : Bf lb) (o256 : Ay (uX la) 256) {most : Int} : ∀ (ts : List Tok) (k p : Nat) (out : List Nat), yo t p (vX (uX la) (uX lb) ts ++ u7 (uX la) 256) → (∀ x ∈ ts, GY (uX la) (uX lb) x) → vy out.length ts = true → ((xn ts out).length : Int) ≤ most → ts.length < k →
 vQ t most la lb k p out=.ok (p+(vX (uX la) (uX lb) ts++u7 (uX la) 256).length,xn ts out)
 |ts,0,p,out,hb,ok,hm,hl,hk=>by omega
 | [], k + 1, p, out, hb, ok, hm, hl, hk => by
   have hb':yo t p (u7 (uX la) 256):=hb
   have s:=bA.sym o256 hb'
   rw[vQ,s]
   simp only
   rw[if_neg (by omega),if_pos (by omega)]
   rfl
 | x :: r, k + 1, p, out, hb, ok, hm, hl, hk => by
   have ox:=ok x (by simp)
   have e:vX (uX la) (uX lb) (x::r)++u7 (uX la) 256=vE (uX la) (uX lb) x++(vX (uX la) (uX lb) r++u7 (uX la) 256):=by
    unfold vX;rw[R1,R7]
   rw[e]at hb ⊢
   obtain⟨h1,h2⟩:=hb.app
   have gl:=FZ r (vG out x)
   have hl':((xn r (vG out x)).length:Int)≤most:=hl
   rw[vy]at hm
   cases hst:v7 out.length x with
   |none=>rw[hst]at hm;cases hm
   | some s' =>
     rw[hst]at hm
     simp only at hm
     by_cases k8:8192<s'
     · rw[if_pos k8]at hm;cases hm
     rw[if_neg k8]at hm
     unfold v7 at hst
     have rec_:s'=((vG out x).length:Nat)→vQ t most la lb k (p+(vE (uX la) (uX lb) x).length) (vG out x)=.ok (p+(vE (uX la) (uX lb) x++(vX (uX la) (uX lb) r++u7 (uX la) 256)).length,xn r (vG out x)):=fun es=>by
      have:=z7 bA bB o256 r k _ (vG out x) h2 (fun y hy=>ok y (by simp [hy])) (by rw[←es];exact hm) hl' (by simp at hk;omega)
      rw[this, @uU _ (vE _ _ _),ux]
     rw[xn]
     by_cases c0:x.len=0
     · rw[if_pos c0]at hst
       by_cases c:x.lit<0∨255<x.lit∨x.vL≠0
       · rw[if_pos c]at hst;cases hst
       rw[if_neg c]at hst
       obtain rfl:=uh hst
       have tb:vE (uX la) (uX lb) x=u7 (uX la) x.lit.toNat:=by rw[vE,if_pos c0]
       rcases ox with ⟨_,q2,q3⟩|⟨q,_⟩
       · have es:vG out x=out++[x.lit.toNat]:=by unfold vG;rw[if_pos c0]
         rw[es]at gl hl' rec_ ⊢
         rw[uU,Sr]at gl rec_
         rw[tb]at h1 rec_ ⊢
         have s:=bA.sym q3 h1
         rw[vQ,s]
         simp only
         have tl:((x.lit.toNat:Nat):Int)<256:=by omega
         rw[if_pos tl,if_neg (by omega)]
         have tn:(((x.lit.toNat:Nat):Int)).toNat=x.lit.toNat:=by omega
         rw[tn]
         exact rec_ (by push_cast;rfl)
       · omega
     · rw[if_neg c0]at hst
       by_cases c:x.len<3∨258<x.len∨x.vL<1∨32768<x.vL∨(out.length:Int)<x.vL∨x.lit≠0
       · rw[if_pos c]at hst;cases hst
       rw[if_neg c]at hst
       obtain rfl:=uh hst
       obtain⟨L,hL⟩:∃y:Nat,x.len=y:=R2 (by omega)
       obtain⟨D,hD⟩:∃y:Nat,x.vL=y:=R2 (by omega)
       have Lt:x.len.toNat=L:=by omega
       have Dt:x.vL.toNat=D:=by omega
       rcases ox with ⟨q,_⟩|⟨_,_,_,_,q5,q6⟩
       · exact absurd q c0
       rw[Lt]at q5
       rw[Dt]at q6
       have es:vG out x=IP D L out:=by unfold vG;rw[if_neg c0,Lt,Dt]
       have cl:=Cm D L out
       have tb:vE (uX la) (uX lb) x=u7 (uX la) (xp L)++(vh (Af L) (zm L)++(u7 (uX lb) (xI D)++vh (AM D) (zU D))):=by rw[vE,if_neg c0,Lt,Dt]
       rw[es]at gl hl' rec_ ⊢
       rw[tb]at h1 rec_ ⊢
       obtain⟨i1,i2⟩:=h1.app
       obtain⟨i3,i4⟩:=i2.app
       obtain⟨i5,i6⟩:=i4.app
       have s1:=bA.sym q5 i1
       have lb_:=EZ (k:=L) (by omega) (by omega)
       have db_:=ER (k:=D) (by omega) (by omega)
       have ls:=xU (k:=L) (by omega) (by omega)
       have ds:=xQ (k:=D) (by omega) (by omega)
       obtain⟨a,b,hab⟩:=Ae ls.1 ls.2.1
       obtain⟨a',b',hab'⟩:=zh ds.1
       have ea:vj (lenOf (xp L))=a:=by rw[hab];rfl
       have eb:zm L=b:=by unfold zm;rw[hab];rfl
       have ea':vj (vw (xI D))=a':=by rw[hab'];rfl
       have eb':zU D=b':=by unfold zU;rw[hab'];rfl
       have v1:=i3.put lb_.2
       have v2:=i6.put db_.2
       have pl:∀v n,(vh v n).length=n:=fun v n=>by unfold vh;exact vt v n 0
       rw[pl]at i5 v2
       have s2:=bB.sym q6 i5
       have eL:a+Af L=L:=by unfold Af;rw[ea];omega
       have eD:a'+AM D=D:=by unfold AM;rw[ea'];omega
       rw[vQ,s1]
       simp only
       rw[if_neg (by omega),if_neg (by omega)]
       have tn:(((xp L:Nat):Int)).toNat=xp L:=by omega
       have tn2:(((xI D:Nat):Int)).toNat=xI D:=by omega
       have cp:wZ t most lb (xp L) (p+(u7 (uX la) (xp L)).length) out=.ok (p+(u7 (uX la) (xp L)++(vh (Af L) (zm L)++(u7 (uX lb) (xI D)++vh (AM D) (zU D)))).length,IP D L out):=by
        unfold wZ
        rw[hab]
        simp only
        rw[←eb,if_pos v1.2,s2]
        simp only
        rw[tn2,hab']
        simp only
        rw[←eb',v2.1,v1.1,eL,eD,if_pos ⟨v2.2,by omega⟩,DT D L out (by omega)]
        simp only[uU,pl,Except.ok.injEq,uq,and_true]
        omega
       rw[tn,cp]
       simp only
       exact rec_ (by rw[cl,hL];push_cast;rfl)
theorem Bf.J7 {C l:List Int} {K k:Nat} (hC:∀y∈C,0≤y∧y≤2147483647) (h2:2≤C.length) (hl:C.length≤288) (hk:k≤C.length) (hk1:1≤k) (r:wP 15 K (wG C)) (e:l=yh (vV C K) k):Bf l∧((∃y∈C,0<y)→vp l=0)∧((∀y∈C,¬0<y)→∀y∈l,y=0):=by
 obtain⟨a,b,c,d,l0⟩:=CJ (m:=0) hC h2 hl hk hk1 r e
 obtain⟨f1,f2,f3,f4,f5⟩:=xR hC h2 hl (by omega) r
 refine⟨⟨l0,b⟩,fun ex=> ?_,fun nn y hy=> ?_⟩
 · rw[xD (by omega) (by omega) b l0,if_pos]
   rw[e,Cn (fun y hy=>(f2 y hy).1) k 15]
   exact f4 ex
 · rw[e,f5 nn]at hy
   exact Sm (List.mem_of_mem_take hy)
theorem BH:∀(l:List Int) (a:Int),(∀y∈l,y=0)→KI l a=a
 |[],a,h=>rfl
 | y :: l, a, h => by
   have:=h y (by simp)
   subst this
   rw[KI]
   first
    |exact BH l a fun z hz=>h z (by simp [hz])
    |(simp;exact BH l a fun z hz=>h z (by simp [hz]))
theorem AW {t:ByteArray} {Lc:List Int} (bk:Bf Lc) (many:Nat):∀(q acc:List Int) (f p:Nat),yo t p (yu (uX Lc) q)→(∀y∈q,Ay (uX Lc) y.toNat)→(∀y∈q,0≤y∧y<16)→acc.length+q.length=many→q.length<f→vM t Lc many f acc p=some (acc++q,p+(yu (uX Lc) q).length)
 |q,acc,0,p,hb,ok,hr,hm,hf=>by omega
 | [], acc, f + 1, p, hb, ok, hr, hm, hf => by
   simp at hm
   rw[vM,if_neg (by omega),if_neg (by omega)]
   simp [yu]
 | y :: q, acc, f + 1, p, hb, ok, hr, hm, hf => by
   have e:yu (uX Lc) (y::q)=u7 (uX Lc) y.toNat++yu (uX Lc) q:=by unfold yu;rw[R1]
   rw[e]at hb ⊢
   obtain⟨h1,h2⟩:=hb.app
   have s:=bk.sym (ok y (by simp)) h1
   have yr:=hr y (by simp)
   have ty:((y.toNat:Nat):Int)=y:=by omega
   simp only[RU]at hm hf
   rw[vM,if_pos (by omega),s]
   simp only
   rw[ty]
   have ag:wz t y acc (p+(u7 (uX Lc) y.toNat).length)=some (y,1,p+(u7 (uX Lc) y.toNat).length):=by
    unfold wz
    rw[if_neg (by omega),if_neg (by omega),if_neg (by omega)]
   rw[ag]
   simp only
   have r:=AW bk many q (acc++[y]) f _ h2 (fun z hz=>ok z (by simp [hz])) (fun z hz=>hr z (by simp [hz])) (by simp;omega) (by omega)
   have e1:List.replicate 1 y=[y]:=rfl
   rw[e1,r,uU,←ux,R7];rfl
def DL (L:List Int):List Int→List Int→List Int
 |[],o=>o
 |s::r,o=>DL L r (o.set s.toNat (L.getD s.toNat 0))
theorem Gs {t:ByteArray} {L:List Int} (hr:∀y∈L,0≤y∧y<8):∀(os:List Int) (p:Nat) (o:List Int),yo t p (y7 (os.map fun s=>L.getD s.toNat 0))→(∀s∈os,s.toNat<L.length)→BA t os p o=DL L os o
 |[],p,o,hb,hs=>rfl
 | s :: os, p, o, hb, hs => by
   have e:y7 ((s::os).map fun s=>L.getD s.toNat 0)=vh (L.getD s.toNat 0).toNat 3++y7 (os.map fun s=>L.getD s.toNat 0):=by unfold y7;rw[R3,R1]
   rw[e]at hb
   obtain⟨h1,h2⟩:=hb.app
   have hl:=hs s (by simp)
   have yr:0≤L.getD s.toNat 0∧L.getD s.toNat 0<8:=hr _ (by rw[RT,RW hl];exact Sb hl)
   have v:=h1.put (by omega)
   have pl:(vh (L.getD s.toNat 0).toNat 3).length=3:=by unfold vh;exact vt _ _ _
   rw[pl]at h2
   rw[BA,DL,v.1,Gs hr os _ _ h2 (fun z hz=>hs z (by simp [hz]))]
   congr 2;omega
theorem Gp (L:List Int):∀(os o:List Int),(DL L os o).length=o.length
 |[],o=>rfl
 |s::os,o=>by rw[DL,Gp L os,Sg]
theorem Gn (L : List Int) : ∀ (os o : List Int) (j : Nat), j < o.length → (DL L os o).getD j 0 = if (∃ s ∈ os, s.toNat = j) then L.getD j 0 else o.getD j 0
 |[],o,j,hj=>by simp [DL]
 | s :: os, o, j, hj => by
   rw[DL,Gn L os _ j (by rw[Sg];exact hj)]
   by_cases c:∃s∈os,s.toNat=j
   · rw[if_pos c,if_pos (by obtain⟨u,hu,e⟩:=c;exact⟨u,by simp [hu],e⟩)]
   · rw[if_neg c]
     by_cases e:s.toNat=j
     · subst e
       rw[if_pos ⟨s,by simp,rfl⟩,RT,Sa,if_pos rfl,if_pos hj];rfl
     · rw[getD_set_ne e,if_neg]
       rintro ⟨u,hu,e2⟩
       rcases uR.1 hu with q|q
       · subst q;exact e e2
       · exact c ⟨u,q,e2⟩
theorem I8:∀j:Nat,j<19→∃i:Nat,i<19∧vn[i]?=some (j:Int):=by
 intro j hj
 have:∀j:Nat,j<19→∃i:Nat,i<19∧vn[i]?=some (j:Int):=by decide
 exact this j hj
theorem Kb {L : List Int} (hl : L.length = 19) (h0 : ∀ y ∈ L, 0 ≤ y) : DL L (vn.take (vC (vn.map fun s => L.getD s.toNat 0) 4 19)) (List.replicate 19 0) = L := by
 apply List.ext_getElem?
 intro j
 have fl:=Gp L (vn.take (vC (vn.map fun s=>L.getD s.toNat 0) 4 19)) (List.replicate 19 0)
 rw[R9]at fl
 by_cases hj:j<19
 · have g:=Gn L (vn.take (vC (vn.map fun s=>L.getD s.toNat 0) 4 19)) (List.replicate 19 0) j (by simpa using hj)
   rw[RW (by omega),RW (by omega)]
   rw[RT,RW (by omega)]at g
   congr 1
   have g':(DL L (vn.take (vC (vn.map fun s=>L.getD s.toNat 0) 4 19)) (List.replicate 19 0))[j]'(by omega)=_:=g
   rw[g']
   have e:L.getD j 0=L[j]'(by omega):=by rw[RT,RW (by omega)];rfl
   split
   · exact e
   · rename_i c
     rw[zO hj]
     obtain⟨i,hi,oi⟩:=I8 j hj
     have hk:vC (vn.map fun s=>L.getD s.toNat 0) 4 19≤i:=by
      apply Se
      intro q
      refine c ⟨(j:Int), ?_,by omega⟩
      refine uE (i:=i) ?_
      rw[uT,if_pos (by omega),oi]
     have z:=yf (vn.map fun s=>L.getD s.toNat 0) 4 19 i hk hi
     have tj:((j:Nat):Int).toNat=j:=by omega
     rw[RT,uJ,oi]at z
     simp only[RZ,Option.getD_some,tj]at z
     have nn:=h0 _ (Sb (l:=L) (n:=j) (by omega))
     omega
 · rw[R8 (by omega),R8 (by omega)]
theorem Le {t : ByteArray} {ts : List Tok} {KA KB KC : Nat} {la lb Lc : List Int} (ok : Az ts KA KB KC la lb Lc) (hb : yo t 0 (vR ts la lb Lc)) (hm : vy 0 ts = true) {most : Int} (hl : ((xn ts []).length : Int) ≤ most) : y6 t most 3 [] = .ok ((vR ts la lb Lc).length, xn ts []) ∧ u0 t 0 1 = 1 ∧ u0 t 1 2 = 2 ∧ 3 ≤ 8 * t.size := by
 obtain⟨HX,hn,tok,ra,rb,ea,eb,hall,rc,ec,hrow,ca,cb,cc,zu,KU,Ei⟩:=ok
 obtain⟨a1,a2,a3⟩:=HS ts hn
 obtain⟨b1,b2⟩:=HT ts hn
 obtain⟨x1,x2,x3,x4,x5⟩:=CJ (m:=0) a2 (by omega) (by omega) (by omega) (by omega) ra ea
 obtain⟨y1,y2,y3,y4,y5⟩:=CJ (m:=0) b2 (by omega) (by omega) (by omega) (by omega) rb eb
 obtain⟨bkA,chA,_⟩:=Bf.J7 a2 (by omega) (by omega) (by omega) (by omega) ra ea
 obtain⟨bkB,chB,zB⟩:=Bf.J7 b2 (by omega) (by omega) (by omega) (by omega) rb eb
 have c1:(xc (la++lb) (List.replicate 19 0)).length=19:=by rw[AE,R9]
 have c2:∀y∈xc (la++lb) (List.replicate 19 0),0≤y∧y≤2147483647:=fun y hy=>by
  have:=AF (la++lb) _ 0 (by omega) (yW 19) y hy
  rw[uU]at this
  omega
 obtain⟨f1,f2,f3,f4,f5⟩:=xR c2 (by omega) (by omega) (by omega) rc
 rw[←ec]at f1 f2 f3 f4 f5
 have lLc:Lc.length=19:=by omega
 have hit:=CE (la++lb) (List.replicate 19 0) (fun y hy=>(yW 19 y hy).1) (by rw[R9])
 have exC:∃y∈xc (la++lb) (List.replicate 19 0),0<y:=by
  obtain⟨z,hz⟩:=List.exists_mem_of_ne_nil (la++lb) (fun q=>by
   have:=Sn List.length q
   rw[uU,RX]at this
   omega)
  have h:=hit z hz (hall z hz)
  refine⟨_, ?_,show 0<(xc (la++lb) (List.replicate 19 0)).getD z.toNat 0 by omega⟩
  have zl:z.toNat<(xc (la++lb) (List.replicate 19 0)).length:=by have:=hall z hz;omega
  rw[RT,RW zl]
  exact Sb zl
 have l0:=f4 exC
 have r16:∀y∈Lc,0≤y∧y<16:=fun y hy=>by have:=f2 y hy;omega
 have bkC:Bf Lc:=⟨by omega,r16⟩
 have chC:vp Lc=0:=by rw[xD (by omega) (by omega) r16 (by omega),if_pos l0]
 have exA:∃y∈dA ts,0<y:=by
  have zl:256<(dA ts).length:=by omega
  refine⟨(dA ts).getD 256 0, ?_,by omega⟩
  rw[RT,RW zl]
  exact Sb zl
 have chA':=chA exA
 have chB':¬(vp lb≠0∧xu lb=false):=by
  rintro ⟨q1,q2⟩
  by_cases c:∃y∈dB ts,0<y
  · exact q1 (chB c)
  · have:=BH lb 0 (zB fun y hy q=>c ⟨y,hy,q⟩)
    unfold xu at q2
    rw[this]at q2
    simp at q2
 obtain⟨R,hR⟩:∃R,R=vn.map (fun o=>Lc.getD o.toNat 0):=⟨_,rfl⟩
 obtain⟨k,hk⟩:∃k,k=vC R 4 19:=⟨_,rfl⟩
 have uk:=wD R 4 19
 rw[←hk]at uk
 have eD:vR ts la lb Lc=vh 5 3++(vh (la.length-257) 5++(vh (lb.length-1) 5++(vh (k-4) 4++(y7 (R.take k)++(yu (uX Lc) (la++lb)++(vX (uX la) (uX lb) ts++u7 (uX la) 256)))))):=by rw[hk,hR];rfl
 rw[eD]at hb ⊢
 have pl:∀v n,(vh v n).length=n:=fun v n=>by unfold vh;exact vt v n 0
 obtain⟨h1,g1⟩:=hb.app
 rw[pl]at g1
 obtain⟨h2,g2⟩:=g1.app
 rw[pl]at g2
 obtain⟨h3,g3⟩:=g2.app
 rw[pl]at g3
 obtain⟨h4,g4⟩:=g3.app
 rw[pl]at g4
 obtain⟨h5,g5⟩:=g4.app
 obtain⟨h6,g6⟩:=g5.app
 have v2:=h2.put (by omega)
 have v3:=h3.put (by omega)
 have v4:=h4.put (by omega)
 have rl:(y7 (R.take k)).length=3* k:=by rw[Ba,Su,hR,List.length_map];show 3* min k 19=_;omega
 rw[rl]at g5 g6 h6
 have rb5:y7 (R.take k)=y7 ((vn.take k).map fun s=>Lc.getD s.toNat 0):=by rw[hR,List.map_take]
 have h5':=h5
 rw[rb5]at h5'
 have own:=Gs hrow (vn.take k) _ (List.replicate 19 0) h5' (fun s hs=>by have:=Ej s (List.mem_of_mem_take hs);omega)
 have back:=Kb lLc (fun y hy=>(hrow y hy).1)
 rw[←hR,←hk]at back
 rw[back]at own
 have okr:∀y∈la++lb,0≤y∧y<16:=fun y hy=>by
  rcases Sj.1 hy with q|q
  · exact x2 y q
  · exact y2 y q
 have h5l:=h5.1
 rw[rl]at h5l
 have h6l:=h6.1
 have g6l:=g6.1
 have ll:(la++lb).length=la.length+lb.length:=uU
 have all:=AW bkC (la.length+lb.length) (la++lb) [] (8* t.size+1) _ h6 zu okr (by simp) (by
  have:∀D:List Int,(∀y∈D,Ay (uX Lc) y.toNat)→D.length≤(yu (uX Lc) D).length:=by
   intro D
   induction D with
   |nil=>intro _;simp
   | cons y D ih =>
     intro h
     have:=ih fun z hz=>h z (by simp [hz])
     obtain⟨n,v,_,q1,q2,q3,q4⟩:=(h y (by simp)).bits
     unfold yu at *
     rw[R1,uU,q4,wc,RU];omega
  have:=this _ zu
  omega)
 have cod:=z7 bkA bkB Ei ts (8* t.size+1) _ [] g6 KU hm hl (by
  have:∀T:List Tok,(∀x∈T,GY (uX la) (uX lb) x)→T.length≤(vX (uX la) (uX lb) T).length:=by
   intro T
   induction T with
   |nil=>intro _;simp
   | cons x T ih =>
     intro h
     have:=ih fun z hz=>h z (by simp [hz])
     have o:=h x (by simp)
     have one:1≤(vE (uX la) (uX lb) x).length:=by
      rcases o with ⟨h1,h2,h3⟩|⟨h1,h2,h3,h4,h5,h6⟩
      · obtain⟨n,v,_,q1,q2,q3,q4⟩:=h3.bits
        rw[vE,if_pos h1,q4,wc];omega
      · obtain⟨n,v,_,q1,q2,q3,q4⟩:=h5.bits
        rw[vE,if_neg (by omega),q4,uU,wc];omega
     unfold vX at *
     rw[R1,uU,RU];omega
  have:=this _ KU
  rw[uU]at g6l
  omega)
 have v1:=h1.put (by omega)
 simp only[uF,Nat.reduceAdd,List.nil_append]at v1 v2 v3 v4 own all cod h5l
 have n1:u0 t 3 5+257=la.length:=by rw[v2.1];omega
 have n2:u0 t 8 5+1=lb.length:=by rw[v3.1];omega
 have n3:u0 t 13 4+4=k:=by rw[v4.1];omega
 have lens:xb t (la.length+lb.length) 13=some (la++lb,17+3* k+(yu (uX Lc) (la++lb)).length):=by
  unfold xb
  simp only[Nat.reduceAdd,n3]
  rw[if_pos (by omega),if_pos (by omega),own,if_pos chC,all]
 have tk:(la++lb).take la.length=la:=List.take_left' rfl
 have dr:(la++lb).drop la.length=lb:=List.drop_left' rfl
 have g256:la.getD 256 0≠0:=by have:=(E5 Ei).2;omega
 refine⟨?_, ?_, ?_,by omega⟩
 · unfold y6
   simp only[Nat.reduceAdd,n1,n2]
   rw[if_pos (by omega),if_neg (by omega),lens]
   simp only[tk,dr]
   rw[if_neg (by rintro (q|q|q);exact q chA';exact g256 q;exact chB' q),cod]
   simp only[uU,pl,rl,Except.ok.injEq,uq,and_true]
   omega
 · have b0:=h1.2 0 (by rw[pl];omega)
   have e0:(vh 5 3).getD 0 0=1:=by decide
   rw[e0]at b0
   simp [u0,b0]
 · have b1:=h1.2 1 (by rw[pl];omega)
   have b2:=h1.2 2 (by rw[pl];omega)
   have e1:(vh 5 3).getD 1 0=0:=by decide
   have e2:(vh 5 3).getD 2 0=1:=by decide
   rw[e1]at b1
   rw[e2]at b2
   simp only[uF]at b1 b2
   simp [u0,b1,b2]
theorem BV {s:ByteArray} (hs:s.size≤300) {KA KB KC:Nat} {la lb Lc:List Int} (ok:Az (tokens s) KA KB KC la lb Lc) {most:Int} (hm1:(s.size:Int)≤most) (hm2:most≤8192):vx (bytesOf (vB (vR (tokens s) la lb Lc))) most=.ok (preB s s.size,(bytesOf (vB (vR (tokens s) la lb Lc))).size):=by
 obtain⟨t1,t2,t3,t4⟩:=yK s hs s.size 0 (by omega) (by omega)
 have t3':vy 0 (tokens s)=true:=t3
 have t4':xn (tokens s) []=preB s s.size:=t4
 have hb:=Bg (vR (tokens s) la lb Lc) (Lg _ _ _ _)
 obtain⟨d,v1,v2,sz⟩:=Le ok hb t3' (most:=most) (by rw[t4',wJ];omega)
 rw[t4']at d
 have psz:(bytesOf (vB (vR (tokens s) la lb Lc))).size=((vR (tokens s) la lb Lc).length+7)/8:=by rw[vZ,xA]
 generalize bytesOf (vB (vR (tokens s) la lb Lc))=T at *
 unfold vx
 rw[if_neg (by omega)]
 have bl:vO T most 0 []=.ok (true,(vR (tokens s) la lb Lc).length,preB s s.size):=by
  unfold vO
  simp only[uF]
  rw[if_pos sz,v2]
  simp only[Nat.reduceEqDiff,uV,if_true,reduceIte]
  rw[d]
  simp [v1]
 rw[vJ,bl]
 simp only[if_true,psz]
theorem Di (s:ByteArray):bytesOf (preB s s.size)=s:=by
 have:preB s s.size=OL s:=by
  apply List.ext_getElem?
  intro i
  by_cases h:i<s.size
  · have g:=DR (OL s) (OM s) i
    rw[BN]at g
    have l1:=It s
    rw[RW (by rw[wJ];exact h),RW (by omega)]
    congr 1
    have a:=GB s h
    rw[RT,RW (by rw[wJ];exact h)]at a
    rw[RT,RW (by omega)]at g
    exact a.trans g
  · rw[R8 (by rw[wJ];omega),R8 (by rw[It];omega)]
 rw[this,BN]
theorem KO {h:H} (hf:h.floor≤h.next):WX h (h.alloc [.aP,.int .i64 0]) h.next [] .aP:=by
 refine⟨⟨by rw[vk rfl];rfl,vY.nil,by simpa using hf,by simp;omega,by simp [AV.id?],fun b hb=>by simp [vB,wS]at hb⟩,(Ext.refl _).alloc _,uy _,by simp,fun j hj=>by simp [AV.id?]at hj⟩
def vH (n:Nat):List Nat:=vh 1 3++(List.replicate 5 0++(vh n 16++vh (65535-n) 16))
def vW (s:ByteArray):ByteArray:=bytesOf (vB (vH s.size))++s
theorem xN (s:ByteArray):(vW s).size=s.size+5:=by
 unfold vW
 rw[ByteArray.size_append,vZ,xA]
 simp [vH,vh,vt];omega
def xk:List Int:=List.replicate 30 5
theorem CM:vo vA 15=0:=by decide+kernel
theorem DY:vo xk 15=2048:=by decide+kernel
theorem xm:vA.length=288:=by decide+kernel
theorem yB:∀y∈vA,1≤y∧y<16:=by
 have:vA.all (fun y=>decide (1≤y∧y<16))=true:=by decide+kernel
 intro y hy
 simpa using List.all_eq_true.1 this y hy
theorem F3:∀y∈xk,1≤y∧y<16:=fun y hy=>by have:=Sm hy;omega
theorem xi:Bf vA:=⟨by rw[CM];omega,fun y hy=>by have:=yB y hy;omega⟩
theorem zH:Bf xk:=⟨by rw[DY];omega,fun y hy=>by have:=F3 y hy;omega⟩
theorem AB {l:List Int} (b:Bf l) (hr:∀y∈l,1≤y∧y<16) {s:Nat} (hs:s<l.length):Ay (uX l) s:=by
 refine E6 b.left b.OA hs ?_
 rw[RT,RW hs]
 exact(hr _ (Sb hs)).1
theorem DZ {t:Tok} (o:xL t):GY (uX vA) (uX xk) t:=by
 refine J8 (ts:=[]) o (fun h=> ?_) (fun h=> ?_) (fun h=> ?_)
 · rcases o with ⟨_,b,c⟩|⟨a,_⟩
   · exact AB xi yB (by rw[xm];omega)
   · omega
 · rcases o with ⟨a,_⟩|⟨a,b,_⟩
   · exact absurd a h
   · have:=xU (k:=t.len.toNat) (by omega) (by omega)
     exact AB xi yB (by rw[xm];omega)
 · rcases o with ⟨a,_⟩|⟨a,b,c,d⟩
   · exact absurd a h
   · have:=xQ (k:=t.vL.toNat) (by omega) (by omega)
     have l:xk.length=30:=by simp [xk]
     exact AB zH F3 (by rw[l];omega)
def wh (ts:List Tok):List Nat:=vh 3 3++(vX (uX vA) (uX xk) ts++u7 (uX vA) 256)
theorem xM {bs:List Nat}:(bytesOf (vB bs)).size=(bs.length+7)/8:=by rw[vZ,xA]
def shorter (a b:ByteArray):ByteArray:=if a.size<b.size then a else b
def Bm (s:ByteArray) (la lb Lc:List Int):ByteArray:=bytesOf (vB (vR (tokens s) la lb Lc))
def yw (s:ByteArray):ByteArray:=bytesOf (vB (wh (tokens s)))
def vF (s:ByteArray) (la lb Lc:List Int):ByteArray:=shorter (Bm s la lb Lc) (shorter (yw s) (vW s))
theorem DA (s:ByteArray) (hs:s.size≤300):(tokens s).length≤300∧(∀t∈tokens s,xL t)∧vy 0 (tokens s)=true∧xn (tokens s) []=preB s s.size:=by
 obtain⟨t1,t2,t3,t4⟩:=yK s hs s.size 0 (by omega) (by omega)
 exact⟨by unfold tokens;omega,t2,t3,t4⟩
theorem Ll (ts:List Tok):∀b∈wh ts,b≤1:=by
 intro b h
 unfold wh at h
 simp only[Sj]at h
 rcases h with h|h|h
 · exact wB _ _ _ b h
 · obtain⟨y,_,hy⟩:=List.mem_flatMap.1 h
   exact Cd _ _ y b hy
 · exact xy _ _ b h
theorem GX {E D : List (Int × Int)} : ∀ T : List Tok, (∀ x ∈ T, GY E D x) → T.length ≤ (vX E D T).length
 |[],_=>by simp
 | x :: T, h => by
   have:=GX (E:=E) (D:=D) T fun z hz=>h z (by simp [hz])
   have o:=h x (by simp)
   have one:1≤(vE E D x).length:=by
    rcases o with ⟨h1,h2,h3⟩|⟨h1,h2,h3,h4,h5,h6⟩
    · obtain⟨n,v,_,q1,q2,q3,q4⟩:=h3.bits
      rw[vE,if_pos h1,q4,wc];omega
    · obtain⟨n,v,_,q1,q2,q3,q4⟩:=h5.bits
      rw[vE,if_neg (by omega),q4,uU,wc];omega
   unfold vX at *
   rw[R1,uU,RU];omega
theorem BW {s:ByteArray} (hs:s.size≤300) {most:Int} (hm1:(s.size:Int)≤most) (hm2:most≤8192):vx (yw s) most=.ok (preB s s.size,(yw s).size):=by
 obtain⟨t1,t2,t3,t4⟩:=DA s hs
 have hb:=Bg (wh (tokens s)) (Ll _)
 have psz:(yw s).size=((wh (tokens s)).length+7)/8:=xM
 change yo (yw s) 0 (wh (tokens s))at hb
 generalize yw s=T at *
 have hb':yo T 0 (vh 3 3++(vX (uX vA) (uX xk) (tokens s)++u7 (uX vA) 256)):=hb
 obtain⟨h1,h2⟩:=hb'.app
 have pl:(vh 3 3).length=3:=rfl
 rw[pl,uF]at h2
 have KU:∀x∈tokens s,GY (uX vA) (uX xk) x:=fun x hx=>DZ (t2 x hx)
 have g:=GX (tokens s) KU
 have h2l:=h2.1
 rw[uU]at h2l
 have cod:=z7 (most:=most) xi zH (AB xi yB (by rw[xm];omega)) (tokens s) (8* T.size+1) 3 [] h2 KU t3 (by rw[t4,wJ];exact hm1) (by omega)
 have fl:3+(vX (uX vA) (uX xk) (tokens s)++u7 (uX vA) 256).length=(wh (tokens s)).length:=by
  unfold wh;rw[@uU _ (vh 3 3),pl]
 rw[fl,t4]at cod
 have v0:u0 T 0 1=1:=by
  have b0:=h1.2 0 (by rw[pl];omega)
  have e0:(vh 3 3).getD 0 0=1:=by decide
  rw[e0]at b0
  simp [u0,b0]
 have v1:u0 T 1 2=1:=by
  have b1:=h1.2 1 (by rw[pl];omega)
  have b2:=h1.2 2 (by rw[pl];omega)
  have e1:(vh 3 3).getD 1 0=1:=by decide
  have e2:(vh 3 3).getD 2 0=0:=by decide
  rw[e1]at b1
  rw[e2]at b2
  simp only[uF]at b1 b2
  simp [u0,b1,b2]
 have sz:3≤8* T.size:=by have:=h1.1;rw[pl]at this;omega
 unfold vx
 rw[if_neg (by omega)]
 have bl:vO T most 0 []=.ok (true,(wh (tokens s)).length,preB s s.size):=by
  unfold vO
  simp only[uF]
  rw[if_pos sz,v1]
  simp only[Nat.reduceEqDiff,uV,if_true,reduceIte]
  have cod':vQ T most vA (List.replicate 30 5) (8* T.size+1) 3 []=.ok ((wh (tokens s)).length,preB s s.size):=cod
  rw[cod']
  simp [v0]
 rw[vJ,bl]
 simp only[if_true,psz]
theorem yY (a b:ByteArray):shorter a b=a∨shorter a b=b:=by
 unfold shorter;split
 · exact .inl rfl
 · exact .inr rfl
theorem JA {g:H} {w id n b:Nat} {P:List Nat} {x:Nat} (hb:b≤1) (hw:g.get w=some [.aE id 0 (n/8+1) 1,.int .i64 n]) (hi:g.get id=some (yi P)) (hl:P.length=n/8+1) (hx:P[n/8]?=some x) (hx8:x<256) (hne:id≠w) (hf:g.floor≤w) (hf2:g.floor≤id) (hn:n<1000000):
 ∃e',aL (aR AP.A) bp (Mk 1 AP.f347.body) [(0,.aD w 0),(1,.int .i64 b)] g=some (.normal,e',(g.set id (yi (P.set (n/8) (x|||b* 2^(n%8))))).set w [.aE id 0 (n/8+1) 1,.int .i64 ((n:Int)+1)]):=by
 have c8:b* 2^(n%8)<256:=by
  have h1:2^(n%8)≤2^7:=Sc (by omega) (by omega)
  have h2:b* 2^(n%8)≤1* 2^7:=Nat.mul_le_mul hb h1
  omega
 have s1:=LH hb (show n%8<8 by omega)
 have o1:=JB hx8 c8
 have w1:=Q9 (n:=b* 2^(n%8)) c8
 have rm:=Qu (a:=n) (n:=8) (by omega)
 have rm':bj .rem (.int .i64 (n:Int)) (.int .i64 8)=some (.int .i64 ((n%8:Nat):Int)):=rm
 have w2:IntKind.wrap .i64 (((n/8+1:Nat):Int)-1)=((n/8:Nat):Int):=by rw[wi (by omega)];omega
 have bl:=Mo P
 have gx:=O3 hx
 have st:=QA P (n/8) (x|||b* 2^(n%8))
 have sgn:((n/8:Nat):Int).toNat=n/8:=by omega
 have gw2:(g.set id (yi (P.set (n/8) (x|||b* 2^(n%8))))).get w=some [.aE id 0 (n/8+1) 1,.int .i64 n]:=by rw[uY (fun q=>hne q.symm),hw]
 generalize yi P=BP at *
 generalize b* 2^(n%8)=Y at *
 generalize (x|||Y)=Z at *
 generalize yi (P.set (n/8) Z)=BZ at *
 refine⟨?_, ?_⟩
 rotate_left
 simp (disch:=first|omega|(simp only[wM,RU,RX,uF,Nat.reduceAdd];first|done|omega|fail)|(simp (disch:=first|omega|(simp only[wM,RU,RX,uF,Nat.reduceAdd];first|done|omega|fail)|fail)only[wM,Cj,RZ,RU,RX,uF,Nat.reduceAdd];done)|fail)only[go_sem,vr,Ci,AP.f347,hw,hi,s1,o1,w1,rm',w2,bl,hl,gx,st,sgn,gw2]
 rfl
theorem LS {h : H} {w b : Nat} {bs : List Nat} {ov : AV} (wr : Wr h w bs ov) (hb : b ≤ 1) (hn : bs.length < 1000000) :
 ∃h' ov',aR AP.A 347 [.aD w 0,.int .i64 b] h=some (.bK [],h')∧Wr h' w (bs++[b]) ov'∧G0 h w ov h' ov':=by
 obtain⟨gw,ow,fl,Jo,ne,HN⟩:=wr
 obtain⟨n,en⟩:∃n,n=bs.length:=⟨_,rfl⟩
 rw[←en]at gw hn
 have pl:=xA bs
 rw[←en]at pl
 have pa:=Ek bs b
 rw[←en]at pa
 obtain⟨P,eP⟩:∃P,P=vB bs:=⟨_,rfl⟩
 rw[←eP]at ow HN pa pl
 have wlt:=h.lt _ _ gw
 obtain ⟨g, ov', id, P', x, s1, hw, hi, hl, hx, hid, hne, hf, hf2, hflx, hP, hk, hx8, hids, hbt⟩ : ∃ g ov' id P' x, aL (aR AP.A) bp (at_ 0 AP.f347.body) [(0, .aD w 0), (1, .int .i64 b)] h = some (.normal, [(0, .aD w 0), (1, .int .i64 b)], g) ∧ g.get w = some [.aE id 0 (n / 8 + 1) 1, .int .i64 n] ∧ g.get id = some (yi P') ∧ P'.length = n / 8 + 1 ∧ P'[n / 8]? = some x ∧ ov' = AV.aE id 0 (n / 8 + 1) 1 ∧ id ≠ w ∧ g.floor = h.floor ∧ h.floor ≤ id ∧ h.next ≤ g.next ∧ vS P n b = P'.set (n / 8) (x ||| b * 2 ^ (n % 8)) ∧ (∀ i, i < h.next → i ≠ w → ov.id? ≠ some i → g.get i = h.get i) ∧ x < 256 ∧ (ov.id? = some id ∨ h.next ≤ id) ∧ KQ P' := by
  have rm:bj .rem (.int .i64 (n:Int)) (.int .i64 8)=some (.int .i64 ((n%8:Nat):Int)):=Qu (a:=n) (n:=8) (by omega)
  by_cases c:n%8=0
  · have cz:((n%8:Nat):Int)=0:=by omega
    obtain⟨v',h',p1,p2,p3,p4,p5,p6⟩:=ow.push Jo (z:=1) (m:=1) (by omega) (by omega) [.int .u8 0] rfl rfl (zP (by omega))
    have gw1:h'.get w=some [ov,.int .i64 n]:=by rw[p5 w ne wlt,gw]
    have e1:=p2.1
    rcases p2.2 with ⟨_,q⟩|⟨id,q1,q2,q3,q4⟩
    · omega
    · have hk:P.length+1=n/8+1:=by omega
      rw[hk]at q1
      have qid:id=h.next+1:=by rw[q1]at p6;exact uh p6
      refine⟨h'.set w [v',.int .i64 n],v',id,P++[0],0, ?_, ?_, ?_, ?_, ?_,q1,by omega,by simp [p3],by omega, ?_, ?_, ?_,by omega,.inr (by omega), ?_⟩
      · rw[q1]
        rw[q1]at p1
        have fl':h'.floor≤w:=by omega
        simp (disch:=omega)only[go_sem,vr,AP.f347,G7,gw,gw1,rm,cz,p1,fl',vq,uY]
      · rw[vq rfl,gw1,q1];rfl
      · rw[uY (by omega),q2,FJ];rfl
      · simp;omega
      · rw[R6 (by omega),show n/8-P.length=0 by omega];rfl
      · simp;omega
      · unfold vS;rw[if_pos c];dsimp only;rw[RT,R6 (by omega),show n/8-P.length=0 by omega];rfl
      · intro i hi hiw hio
        rw[uY hiw,p5 i hio hi]
      · intro y hy
        rcases Sj.1 hy with q|q
        · exact HN y q
        · simp at q;omega
  · have cz:¬((n%8:Nat):Int)=0:=by omega
    rcases ow.2 with ⟨_,q⟩|⟨id,q1,q2,q3,q4⟩
    · omega
    · have hk:P.length=n/8+1:=by omega
      rw[hk]at q1
      obtain⟨x,hx⟩:∃x,P[n/8]?=some x:=⟨_,RW (by omega)⟩
      have hneq:id≠w:=fun q=>ne (by rw[q1,q];rfl)
      refine⟨h,ov,id,P,x, ?_,by rw[gw,q1],q2,hk,hx,q1,hneq,rfl,q3,uy _, ?_,fun _ _ _ _=>rfl,HN x (uE hx),.inl (by rw[q1];rfl),HN⟩
      · simp (disch:=first|omega|(simp only[wM,RU,RX,uF,Nat.reduceAdd];first|done|omega|fail)|(simp (disch:=first|omega|(simp only[wM,RU,RX,uF,Nat.reduceAdd];first|done|omega|fail)|fail)only[wM,Cj,RZ,RU,RX,uF,Nat.reduceAdd];done)|fail)only[go_sem,vr,Ci,AP.f347,gw,rm,cz]
      · unfold vS;rw[if_neg c];dsimp only;rw[RT,hx];rfl
 obtain⟨e',s2⟩:=JA hb hw hi hl hx hx8 hne (by omega) (by omega) hn
 have cs:aR AP.A 347 [.aD w 0,.int .i64 b] h=some (.bK [],(g.set id (yi (P'.set (n/8) (x|||b* 2^(n%8))))).set w [.aE id 0 (n/8+1) 1,.int .i64 ((n:Int)+1)]):=by
  refine vT (fn:=AP.f347) (e:=e') (vs:=[]) rfl rfl rfl ?_ rfl
  have hb:AP.f347.body=.seq (at_ 0 AP.f347.body) (Mk 1 AP.f347.body):=rfl
  rw[hb,rq]
  have s1':aL (aR AP.A) bp (at_ 0 AP.f347.body) (params 0 [.aD w 0,.int .i64 b]) h=some (.normal,[(0,.aD w 0),(1,.int .i64 b)],g):=s1
  rw[s1',r9,s2]
 rw[←hP]at cs
 have ol:(vS P n b).length=n/8+1:=by rw[hP,Sg,hl]
 refine⟨_,ov',cs,⟨?_, ?_, ?_, ?_, ?_, ?_⟩, ?_, ?_, ?_, ?_⟩
 · rw[vq rfl,uY hne.symm,hw,hid,uU,←en];rfl
 · rw[pa,hid]
   exact⟨by simp [yi,ol],.inr ⟨id,by rw[ol],by rw[uY hne,vq rfl,hi];rfl,by simpa [hf]using hf2,by omega⟩⟩
 · simpa [hf]using fl
 · simp;omega
 · rw[hid];exact fun q=>hne (uh q)
 · rw[pa];exact B3 hb HN
 · simp [hf]
 · simpa using hflx
 · intro i hi1 hi2 hi3
   have:i≠id:=by
    rcases hids with q|q
    · intro q2;exact hi3 (by rw[q,q2])
    · omega
   rw[uY hi2,uY this,hk i hi1 hi2 hi3]
 · intro j hj
   rw[hid]at hj
   obtain rfl:=uh hj
   exact hids
theorem JP {h:H} {w:Nat} {ov:AV} {v n up N:Nat} (gw:h.get w=some [ov,.int .i64 N]) (hn:n≤up) (hu:up≤16) (hv:v<2^n) (hb:N+n≤65536):aR AP.A 346 [.aD w 0,.int .i64 v,.int .i64 n,.int .i64 up] h=some (.bool true,h):=by
 have hp:2^n≤2^16:=Sc (by omega) (by omega)
 have s1:oP .shl .i64 1 (n:Int)=some (.int .i64 ((2^n:Nat):Int)):=by
  have:=Bb (a:=1) (s:=n) (by omega) (by omega)
  rwa [Nat.one_mul]at this
 refine s7 (fn:=AP.f346) (e:=[(8,.bool true)]) (vs:=[.bool true]) rfl rfl rfl ?_ rfl
 have c1:(0:Int)≤(n:Int):=by omega
 have c2:(n:Int)≤(up:Int):=by omega
 have c3:(0:Int)≤(v:Int):=by omega
 have c4:(v:Int)<((2^n:Nat):Int):=by omega
 have c5:(N:Int)+(n:Int)≤65536:=by omega
 generalize 2^n=M at *
 simp (disch:=omega)only[go_sem,vr,AP.f346,s1,gw,c1,c2,c3,c4,c5]
theorem Eo (w v n:Nat) (hv:v<65536) (hn:n≤16):∀(m i:Nat) (h:H) (bs:List Nat) (ov:AV),i+m=n→Wr h w bs ov→bs.length+m<1000000→
 ∃e' h' ov',Lp AP.A [0,1,17,18] AP.f335L0 [(0,.aD w 0),(1,.int .i64 v),(17,.int .i64 n),(18,.int .i64 i)] h=some (.exit 1,e',h')∧Wr h' w (bs++BC v i m) ov'∧G0 h w ov h' ov'
 | 0, i, h, bs, ov, hi, wr, hb => by
   obtain rfl:i=n:=by omega
   refine⟨[(0,.aD w 0),(1,.int .i64 v),(17,.int .i64 i),(18,.int .i64 i),(19,.bool false)],h,ov,sM ?_,by simpa [BC]using wr,G0.refl h w ov⟩
   simp (disch:=omega)only[go_sem,vr,AP.f335L0]
 | m + 1, i, h, bs, ov, hi, wr, hb => by
   have q:=Nat.div_le_self v (2^i)
   obtain⟨h1,o1,k1,wr1,f1⟩:=LS wr (b:=v/2^i%2) (by omega) (by omega)
   obtain⟨e',h',ov',r1,r2,r3⟩:=Eo w v n hv hn m (i+1) h1 _ o1 (by omega) wr1 (by simp;omega)
   have n1:((i+1:Nat):Int)=(i:Int)+1:=by omega
   have s1:=GJ (a:=v) (s:=i) (by omega)
   have a1:=Fy (n:=v/2^i) (by omega)
   rw[R7]at r2
   refine⟨e',h',ov',sN ?_ r1,r2,f1.trans r3⟩
   rw[n1]
   simp (disch:=omega)only[go_sem,vr,AP.f335L0,s1,a1,k1]
theorem xJ {h:H} {w:Nat} {bs:List Nat} {ov:AV} (wr:Wr h w bs ov) (v n:Nat) (hn:n≤16) (hv:v<2^n) (hb:bs.length+n≤65536):
 ∃h' ov',aR AP.A 335 [.aD w 0,.int .i64 v,.int .i64 n] h=some (.int .i64 0,h')∧Wr h' w (bs++vh v n) ov'∧G0 h w ov h' ov':=by
 have hp:2^n≤2^16:=Sc (by omega) hn
 obtain⟨e',h',ov',r1,r2,r3⟩:=Eo w v n (by omega) hn n 0 h bs ov (by omega) wr (by omega)
 have r1':Lp AP.A [0,1,17,18] AP.f335L0 [(0,.aD w 0),(1,.int .i64 v),(17,.int .i64 n),(18,.int .i64 0)] h=some (.exit 1,e',h'):=r1
 clear r1
 have k:=JP (up:=16) wr.get hn (by omega) hv hb
 refine⟨h',ov',s7 (fn:=AP.f335) (e:=[(6,.int .i64 0)]) (vs:=[.int .i64 0]) rfl rfl rfl ?_ rfl,r2,r3⟩
 have k':aR AP.A 346 [.aD w 0,.int .i64 v,.int .i64 n,.int .i64 16] h=some (.bool true,h):=k
 simp (disch:=omega)only[go_sem,vr,AP.f335,rK,r1',k']
theorem Dg (w v:Nat) (A:List AV) (hA:A[1]?=some (.int .i64 v)) (hA2:A.length=2) (c:Nat) (hv:v<65536):∀(m:Nat) (h:H) (bs:List Nat) (ov:AV),m≤15→Wr h w bs ov→bs.length+m<1000000→h.get c=some A→c≠w→ov.id?≠some c→
 ∃e' h' ov',Lp AP.A [0,3,5] AP.f352L0 [(0,.aD w 0),(3,.aD c 0),(5,.int .i64 ((m:Int)-1))] h=some (.exit 1,e',h')∧Wr h' w (bs++xX v m) ov'∧G0 h w ov h' ov'
 | 0, h, bs, ov, hm, wr, hb, hc, hcw, hco => by
   refine⟨[(0,.aD w 0),(3,.aD c 0),(5,.int .i64 (-1)),(26,.bool false)],h,ov,sM ?_,by simpa [xX]using wr,G0.refl h w ov⟩
   simp (disch:=omega)only[go_sem,vr,AP.f352L0]
 | m + 1, h, bs, ov, hm, wr, hb, hc, hcw, hco => by
   have q:=Nat.div_le_self v (2^m)
   obtain⟨h1,o1,k1,wr1,f1⟩:=LS wr (b:=v/2^m%2) (by omega) (by omega)
   have hcl:=h.lt _ _ hc
   obtain⟨e',h',ov',r1,r2,r3⟩:=Dg w v A hA hA2 c hv m h1 _ o1 (by omega) wr1 (by simp;omega) (by rw[f1.vP c hcl hcw hco,hc]) hcw (fun q=>by
    rcases f1.ids c q with q|q
    · exact hco q
    · omega)
   have n1:((m+1:Nat):Int)-1=(m:Int):=by omega
   have s1:=GJ (a:=v) (s:=m) (by omega)
   have a1:=Fy (n:=v/2^m) (by omega)
   rw[R7]at r2
   refine⟨e',h',ov',sN ?_ r1,r2,f1.trans r3⟩
   rw[n1]
   simp (disch:=omega)only[go_sem,vr,AP.f352L0,s1,a1,k1,hc,hA,hA2]
theorem Ic {h:H} {w:Nat} {bs:List Nat} {ov:AV} (wr:Wr h w bs ov) (v n:Nat) (hn0:1≤n) (hn:n≤15) (hv:v<2^n) (hb:bs.length+n≤65536):
 ∃h' ov',aR AP.A 352 [.aD w 0,.agg [.int .i64 n,.int .i64 v]] h=some (.int .i64 0,h')∧Wr h' w (bs++xX v n) ov'∧G0 h w ov h' ov':=by
 have hp:2^n≤2^15:=Sc (by omega) hn
 obtain⟨g,eg⟩:∃g,g=h.alloc [.int .i64 n,.int .i64 v]:=⟨_,rfl⟩
 have hw:=h.lt _ _ wr.get
 have frA:∀i,i<h.next→g.get i=h.get i:=fun i hi=>by rw[eg,vg (by omega)]
 have wr1:Wr g w bs ov:=⟨by rw[frA w hw,wr.get],wr.own.mono (by rw[eg];simp) (fun i q=>frA i (wr.own.lt q).2),by rw[eg];simpa using wr.fl,by rw[eg];have:=wr.Jo;simp;omega,wr.ne,wr.HN⟩
 have gc:g.get h.next=some [.int .i64 n,.int .i64 v]:=by rw[eg,vk rfl]
 obtain⟨e',h',ov',r1,r2,r3⟩:=Dg w v _ rfl rfl h.next (by omega) n g bs ov hn wr1 (by omega) gc (by omega) (fun q=>by have:=(wr.own.lt q).2;omega)
 have k:aR AP.A 346 [.aD w 0,.int .i64 v,.int .i64 n,.int .i64 15] g=some (.bool true,g):=JP (up:=15) wr1.get hn (by omega) hv hb
 refine⟨h',ov',s7 (fn:=AP.f352) (e:=[(4,.int .i64 0)]) (vs:=[.int .i64 0]) rfl rfl rfl ?_ rfl,r2,⟨by rw[r3.floor,eg];simp,by have:=r3.next;rw[eg]at this;simp at this;omega,fun i h1 h2 h3=>by rw[r3.vP i (by rw[eg];simp;omega) h2 h3,frA i h1],fun j hj=>by
  rcases r3.ids j hj with q|q
  · exact .inl q
  · rw[eg]at q;simp at q;exact .inr (by omega)⟩⟩
 have c1:¬(n:Int)<1:=by omega
 simp (disch:=omega)only[go_sem,vr,AP.f352,rK,←eg,r1,c1,gc,k]
theorem Ig {h:H} {w:Nat} {bs:List Nat} {ov:AV} (wr:Wr h w bs ov):aR AP.A 336 [.aD w 0] h=some (.str (bytesOf (vB bs)),h):=by
 have gw:=wr.get
 have b:=Fz wr.own
 refine s7 (fn:=AP.f336) (e:=[(2,.str (bytesOf (vB bs)))]) (vs:=[.str (bytesOf (vB bs))]) rfl rfl rfl ?_ rfl
 simp (disch:=omega)only[go_sem,vr,AP.f336,gw,b]
theorem Gx (bs : List Nat) : ∀ m : Nat, (bs.length + m) % 8 = 0 → m < 8 → vB (bs ++ List.replicate m 0) = vB bs := by
 have step:∀(k:Nat) (cs:List Nat),k+cs.length%8≤8→(0<k→cs.length%8≠0)→vB (cs++List.replicate k 0)=vB cs:=by
  intro k
  induction k with
  |zero=>intro cs _ _;simp
  | succ k ih =>
    intro cs h1 h2
    have hne:=h2 (by omega)
    have e:cs++List.replicate (k+1) 0=(cs++[0])++List.replicate k 0:=by simp [List.replicate_succ]
    have l1:(cs++[0]).length=cs.length+1:=by simp
    have z:vB (cs++[0])=vB cs:=by
     rw[Ek]
     unfold vS
     rw[if_neg hne]
     dsimp only
     rw[Nat.zero_mul,Nat.or_zero]
     have hl:=xA cs
     have hlt:cs.length/8<(vB cs).length:=by omega
     rw[RT,RW hlt]
     exact List.set_getElem_self hlt
    rw[e]
    by_cases c:k=0
    · subst c;simpa using z
    · rw[ih (cs++[0]) (by rw[l1];omega) (fun _=>by rw[l1];omega),z]
 intro m hm h8
 refine step m bs (by omega) (fun h=>by omega)
theorem Kf {h:H} {w:Nat} {bs:List Nat} {ov:AV} (wr:Wr h w bs ov) (m:Nat) (hm:(bs.length+m)%8=0) (h8:m<8) (hb:bs.length+m<1000):
 ∃h',aR AP.A 334 [.aD w 0] h=some (.int .i64 0,h')∧Wr h' w (bs++List.replicate m 0) ov∧G0 h w ov h' ov:=by
 have gw:=wr.get
 have pz:=Gx bs m hm h8
 have pl:=xA bs
 have ln:=wr.own.rd.len
 have e8:(8:Int)* ((vB bs).length:Nat)=((bs.length+m:Nat):Int):=by omega
 have fl:=wr.fl
 refine⟨h.set w [ov,.int .i64 (bs.length+m:Nat)],s7 (fn:=AP.f334) (e:=[(2,.int .i64 0)]) (vs:=[.int .i64 0]) rfl rfl rfl ?_ rfl,⟨by rw[vq rfl,gw];simp, ?_,by simpa using fl,by simpa using wr.Jo,wr.ne,by rw[pz];exact wr.HN⟩,⟨by simp,by simp,fun i _ h2 _=>uY h2,fun j hj=>.inl hj⟩⟩
 · have mb:((bs.length+m:Nat):Int)<1000:=by omega
   generalize ((bs.length+m:Nat):Int)=M at *
   have M0:0≤M:=by omega
   clear pz
   simp (disch:=omega)only[go_sem,vr,AP.f334,gw,ln,e8,fl]
 · rw[pz];exact wr.own.mono (by simp) fun j hj=>uY (fun q=>wr.ne (by rw[hj,q]))
theorem HL {h:H} (hf:h.floor=h.next) (k:Nat) (hk:k<4):∃h' ov',aR AP.A 333 [.int .i64 k] h=some (.aD h.next 0,h')∧WX h h' h.next (vh 1 1++vh k 2) ov'∧h'.floor=h.floor:=by
 have x0:=KO (h:=h) (by omega)
 obtain⟨h1,o1,k1,w1,f1⟩:=xJ x0.wr 1 1 (by omega) (by omega) (by simp)
 have x1:=x0.step w1 f1
 obtain⟨h2,o2,k2,w2,f2⟩:=xJ x1.wr k 2 (by omega) (by omega) (by simp [vh,vt])
 have x2:=x1.step w2 f2
 have kn:aR AP.A 345 [] h=some (.aD h.next 0,h.alloc [.aP,.int .i64 0]):=by
  refine s7 (fn:=AP.f345) (e:=[(0,.aD h.next 0)]) (vs:=[.aD h.next 0]) rfl rfl rfl ?_ rfl
  simp (disch:=omega)only[go_sem,vr,AP.f345]
 refine⟨h2,o2,s7 (fn:=AP.f333) (e:=[(2,.aD h.next 0)]) (vs:=[.aD h.next 0]) rfl rfl rfl ?_ rfl, ?_,by rw[f2.floor,f1.floor];simp⟩
 · clear x0 x1 x2
   have k1':aR AP.A 335 [.aD h.next 0,.int .i64 1,.int .i64 1] (h.alloc [.aP,.int .i64 0])=some (.int .i64 0,h1):=k1
   have k2':aR AP.A 335 [.aD h.next 0,.int .i64 k,.int .i64 2] h1=some (.int .i64 0,h2):=k2
   simp (disch:=omega)only[go_sem,vr,AP.f333,kn,k1',k2']
 · simpa using x2
theorem Nl {F:Nat→Option (Nat×Nat)} {k to:Nat} (h:vj (F to)≤k):yM F k to=to:=by
 cases to with
 |zero=>rfl
 |succ t=>rw[yM,if_pos h]
theorem Ea {F : Nat → Option (Nat × Nat)} {fk : Nat} (hF : ∀ (g : H) (s : Nat), s < 1000000 → aR AP.A fk [.int .i64 s] g = some (DC (F s), g)) (k to : Nat) (hk : k < 1000000) (hto : to < 1000) (hl : vj (F to) ≤ k) (g : H) (id : Nat) (hf : g.floor ≤ id) (hg : g.get id = some [.int .i64 0, .int .i64 0, .int .i64 0]) : ∀ n : Nat, n < 1000 → (∀ s, to ≤ s → s ≤ to + n → ∃ a b, F s = some (a, b) ∧ a < 1000000) →
 (yM F k (to+n)=to∧Lp AP.A [0,2,3,8,9] AP.f361L0 [(0,.int .i64 k),(2,.int .i64 to),(3,.fn fk [] []),(8,.aD id 0),(9,.int .i64 (to+n:Nat))] g=some (.exit 0,[(0,.int .i64 k),(2,.int .i64 to),(3,.fn fk [] []),(8,.aD id 0),(9,.int .i64 to),(16,.bool false)],g))∨
 (yM F k (to+n)≠to∧Lp AP.A [0,2,3,8,9] AP.f361L0 [(0,.int .i64 k),(2,.int .i64 to),(3,.fn fk [] []),(8,.aD id 0),(9,.int .i64 (to+n:Nat))] g=some (.ret,[(8,.aD id 0)],g.set id [.int .i64 (yM F k (to+n):Nat),.int .i64 (wv (F (yM F k (to+n))):Nat),.int .i64 ((k-vj (F (yM F k (to+n))):Nat):Int)]))
 | 0, _, _ => by
   refine .inl ⟨Nl hl,sM ?_⟩
   simp (disch:=omega)only[go_sem,vr,AP.f361L0]
 | n + 1, hn, hs => by
   obtain⟨a,b,hab,ha⟩:=hs (to+(n+1)) (by omega) (by omega)
   have kk:=fun g=>hF g (to+(n+1)) (by omega)
   rw[hab]at kk
   simp only[I,DC]at kk
   have la:vj (F (to+(n+1)))=a:=by rw[hab];rfl
   have lb:wv (F (to+(n+1)))=b:=by rw[hab];rfl
   have c0:(to:Int)<((to+(n+1):Nat):Int):=by omega
   have ed:yM F k (to+(n+1))=if a≤k then to+(n+1)else yM F k (to+n):=by rw[←ux,yM,←la];rfl
   by_cases c1:a≤k
   · rw[if_pos c1]at ed
     rw[ed,la,lb]
     refine .inr ⟨by omega,tq ?_⟩
     have n1:((k-a:Nat):Int)=(k:Int)-(a:Int):=by omega
     have c2:(a:Int)≤(k:Int):=by omega
     have sb:((to+(n+1):Nat):Int)<1000000:=by omega
     rw[n1]
     generalize ((to+(n+1):Nat):Int)=s at *
     clear hs hF
     simp (disch:=first|omega|(simp only[wM,RU,RX,uF,Nat.reduceAdd];first|done|omega|fail)|(simp (disch:=first|omega|(simp only[wM,RU,RX,uF,Nat.reduceAdd];first|done|omega|fail)|fail)only[wM,Cj,RZ,RU,RX,uF,Nat.reduceAdd];done)|fail)only[go_sem,vr,Ci,AP.f361L0,c0,kk,c2,hg]
   · rw[if_neg c1]at ed
     rw[ed]
     have n1:((to+(n+1):Nat):Int)-1=((to+n:Nat):Int):=by omega
     have c2:¬(a:Int)≤(k:Int):=by omega
     have st:aL (aR AP.A) bp AP.f361L0 (ay [(0,.int .i64 k),(2,.int .i64 to),(3,.fn fk [] []),(8,.aD id 0),(9,.int .i64 (to+(n+1):Nat))] [0,2,3,8,9]) g=some (.normal,[(0,.int .i64 k),(2,.int .i64 to),(3,.fn fk [] []),(8,.aD id 0),(9,.int .i64 (to+n:Nat))],g):=by
      rw[←n1]
      have sb:((to+(n+1):Nat):Int)<1000000:=by omega
      have sb0:0≤((to+(n+1):Nat):Int):=by omega
      clear n1
      generalize ((to+(n+1):Nat):Int)=s at *
      clear hs hF
      simp (disch:=first|omega|(simp only[wM,RU,RX,uF,Nat.reduceAdd];first|done|omega|fail)|(simp (disch:=first|omega|(simp only[wM,RU,RX,uF,Nat.reduceAdd];first|done|omega|fail)|fail)only[wM,Cj,RZ,RU,RX,uF,Nat.reduceAdd];done)|fail)only[go_sem,vr,Ci,AP.f361L0,c0,kk,c2,hg]
     rcases Ea hF k to hk hto hl g id hf hg n (by omega) (fun s h1 h2=>hs s h1 (by omega))with ⟨e,L⟩|⟨e,L⟩
     · exact .inl ⟨e,sN st L⟩
     · exact .inr ⟨e,sN st L⟩
theorem J2 {F:Nat→Option (Nat×Nat)} {fk:Nat} (hF:∀(g:H) (s:Nat),s<1000000→aR AP.A fk [.int .i64 s] g=some (DC (F s),g)) (k to n:Nat) (hk:k<1000000) (hto:to<1000) (hl:vj (F to)≤k) (hn:n<1000) (hs:∀s,to≤s→s≤to+n→∃a b,F s=some (a,b)∧a<1000000) (hz:yM F k (to+n)=to→wv (F to)=0∧k=vj (F to)) (h:H):
 aR AP.A 361 [.int .i64 k,.int .i64 (to+n:Nat),.int .i64 to,.fn fk [] []] h=some (.agg [.int .i64 (yM F k (to+n):Nat),.int .i64 (wv (F (yM F k (to+n))):Nat),.int .i64 ((k-vj (F (yM F k (to+n))):Nat):Int)],h):=by
 rcases Ea hF k to hk hto hl (h.dH.alloc [.int .i64 0,.int .i64 0,.int .i64 0]) h.next (by simp) (by rw[vk (by simp)]) n hn hs with ⟨e,L⟩|⟨e,L⟩
 · obtain⟨z1,z2⟩:=hz e
   rw[e,z1,←z2,Nat.sub_self]
   refine tE (fn:=AP.f361) (h2:=(h.dH.alloc [.int .i64 0,.int .i64 0,.int .i64 0]).set h.next [.int .i64 to,.int .i64 0,.int .i64 0]) (e:=[(8,.aD h.next 0)]) (vs:=[.agg [.int .i64 to,.int .i64 0,.int .i64 0]]) rfl rfl rfl ?_ ?_ ?_
   · clear hs hF
     simp (disch:=first|omega|(simp only[wM,RU,RX,uF,Nat.reduceAdd];first|done|omega|fail)|(simp (disch:=first|omega|(simp only[wM,RU,RX,uF,Nat.reduceAdd];first|done|omega|fail)|fail)only[wM,Cj,RZ,RU,RX,uF,Nat.reduceAdd];done)|fail)only[go_sem,vr,Ci,AP.f361,rK,L]
   · simp (disch:=first|omega|(simp only[wM,RU,RX,uF,Nat.reduceAdd];first|done|omega|fail)|(simp (disch:=first|omega|(simp only[wM,RU,RX,uF,Nat.reduceAdd];first|done|omega|fail)|fail)only[wM,Cj,RZ,RU,RX,uF,Nat.reduceAdd];done)|fail)only[go_sem,vr,Ci,AP.f361,cn,mR];rfl
   · rfl
 · generalize yM F k (to+n)=S at *
   generalize wv (F S)=B at *
   generalize k-vj (F S)=V at *
   refine tE (fn:=AP.f361) (h2:=(h.dH.alloc [.int .i64 0,.int .i64 0,.int .i64 0]).set h.next [.int .i64 S,.int .i64 B,.int .i64 V]) (e:=[(8,.aD h.next 0)]) (vs:=[.agg [.int .i64 S,.int .i64 B,.int .i64 V]]) rfl rfl rfl ?_ ?_ ?_
   · clear hs hF
     simp (disch:=first|omega|(simp only[wM,RU,RX,uF,Nat.reduceAdd];first|done|omega|fail)|(simp (disch:=first|omega|(simp only[wM,RU,RX,uF,Nat.reduceAdd];first|done|omega|fail)|fail)only[wM,Cj,RZ,RU,RX,uF,Nat.reduceAdd];done)|fail)only[go_sem,vr,Ci,AP.f361,rK,L]
   · simp (disch:=first|omega|(simp only[wM,RU,RX,uF,Nat.reduceAdd];first|done|omega|fail)|(simp (disch:=first|omega|(simp only[wM,RU,RX,uF,Nat.reduceAdd];first|done|omega|fail)|fail)only[wM,Cj,RZ,RU,RX,uF,Nat.reduceAdd];done)|fail)only[go_sem,vr,Ci,AP.f361,cn,mR];rfl
   · rfl
theorem Oy (h:H) (k:Nat) (h1:3≤k) (h2:k≤258):aR AP.A 355 [.int .i64 k] h=some (.bK [.agg [.int .i64 (xp k:Nat),.int .i64 (zm k:Nat),.int .i64 (Af k:Nat)],.int .i64 0],h):=by
 by_cases c:k=258
 · subst c
   have e1:xp 258=285:=by decide
   have e2:zm 258=0:=by decide
   have e3:Af 258=0:=by decide
   rw[e1,e2,e3]
   refine tE (fn:=AP.f355) (h2:=(h.dH.alloc [.int .i64 0,.int .i64 0,.int .i64 0]).set h.next [.int .i64 285,.int .i64 0,.int .i64 0]) (e:=[(2,.aD h.next 0),(3,.int .i64 0)]) (vs:=[.agg [.int .i64 285,.int .i64 0,.int .i64 0],.int .i64 0]) rfl rfl rfl ?_ ?_ ?_
   · have a1:¬((258:Nat):Int)<3:=by omega
     have a2:¬(258:Int)<((258:Nat):Int):=by omega
     have a3:(((258:Nat):Int)==258)=true:=by decide
     generalize ((258:Nat):Int)=K at *
     simp (disch:=first|omega|(simp only[wM,RU,RX,uF,Nat.reduceAdd];first|done|omega|fail)|(simp (disch:=first|omega|(simp only[wM,RU,RX,uF,Nat.reduceAdd];first|done|omega|fail)|fail)only[wM,Cj,RZ,RU,RX,uF,Nat.reduceAdd];done)|fail)only[go_sem,vr,Ci,AP.f355,a1,a2,a3]
   · simp (disch:=first|omega|(simp only[wM,RU,RX,uF,Nat.reduceAdd];first|done|omega|fail)|(simp (disch:=first|omega|(simp only[wM,RU,RX,uF,Nat.reduceAdd];first|done|omega|fail)|fail)only[wM,Cj,RZ,RU,RX,uF,Nat.reduceAdd];done)|fail)only[go_sem,vr,Ci,AP.f355,cn,mR];rfl
   · rfl
 · have e:yM lenOf k 285=yM lenOf k 284:=by
    rw[yM,if_neg]
    have:vj (lenOf (284+1))=258:=rfl
    omega
   have sp:=xU h1 h2
   have hz:yM lenOf k (257+27)=257→wv (lenOf 257)=0∧k=vj (lenOf 257):=fun q=>by
    have q':xp k=257:=e.trans q
    rw[q']at sp
    have b1:wv (lenOf 257)=0:=rfl
    have l1:vj (lenOf 257)=3:=rfl
    rw[l1,b1]at sp
    exact⟨rfl,by rw[l1];omega⟩
   have r:=J2 (F:=lenOf) (fk:=74) (fun g s hs=>H5 g s hs) k 257 27 (by omega) (by omega) (show vj (lenOf 257)≤k from h1) (by omega) (fun s q1 q2=>by
    obtain⟨a,b,hab⟩:=Ae q1 (by omega)
    have:=C6 hab
    exact⟨a,b,hab,by omega⟩) hz (h.dH.alloc [.int .i64 0,.int .i64 0,.int .i64 0])
   have el:yM lenOf k (257+27)=xp k:=e.symm
   rw[el]at r
   have r':aR AP.A 361 [.int .i64 k,.int .i64 284,.int .i64 257,.fn 74 [] []] (h.dH.alloc [.int .i64 0,.int .i64 0,.int .i64 0])=some (.agg [.int .i64 (xp k:Nat),.int .i64 (zm k:Nat),.int .i64 (Af k:Nat)],h.dH.alloc [.int .i64 0,.int .i64 0,.int .i64 0]):=r
   clear r
   generalize xp k=S at *
   generalize zm k=B at *
   generalize Af k=V at *
   refine tE (fn:=AP.f355) (h2:=(h.dH.alloc [.int .i64 0,.int .i64 0,.int .i64 0]).set h.next [.int .i64 S,.int .i64 B,.int .i64 V]) (e:=[(2,.aD h.next 0),(3,.int .i64 0)]) (vs:=[.agg [.int .i64 S,.int .i64 B,.int .i64 V],.int .i64 0]) rfl rfl rfl ?_ ?_ ?_
   · have a1:¬(k:Int)<3:=by omega
     have a2:¬(258:Int)<(k:Int):=by omega
     have a3:((k:Int)==258)=false:=by simp;omega
     clear sp hz
     simp (disch:=first|omega|(simp only[wM,RU,RX,uF,Nat.reduceAdd];first|done|omega|fail)|(simp (disch:=first|omega|(simp only[wM,RU,RX,uF,Nat.reduceAdd];first|done|omega|fail)|fail)only[wM,Cj,RZ,RU,RX,uF,Nat.reduceAdd];done)|fail)only[go_sem,vr,Ci,AP.f355,a1,a2,a3,r']
   · simp (disch:=first|omega|(simp only[wM,RU,RX,uF,Nat.reduceAdd];first|done|omega|fail)|(simp (disch:=first|omega|(simp only[wM,RU,RX,uF,Nat.reduceAdd];first|done|omega|fail)|fail)only[wM,Cj,RZ,RU,RX,uF,Nat.reduceAdd];done)|fail)only[go_sem,vr,Ci,AP.f355,cn,mR];rfl
   · rfl
theorem LF (h:H) (k:Nat) (h1:1≤k) (h2:k≤32768):aR AP.A 356 [.int .i64 k] h=some (.bK [.agg [.int .i64 (xI k:Nat),.int .i64 (zU k:Nat),.int .i64 (AM k:Nat)],.int .i64 0],h):=by
 have sp:=xQ h1 h2
 have hz:yM vw k (0+29)=0→wv (vw 0)=0∧k=vj (vw 0):=fun q=>by
  have q':xI k=0:=q
  rw[q']at sp
  have b1:wv (vw 0)=0:=rfl
  have l1:vj (vw 0)=1:=rfl
  rw[l1,b1]at sp
  exact⟨rfl,by rw[l1];omega⟩
 have r:=J2 (F:=vw) (fk:=75) (fun g s hs=>FW g s hs) k 0 29 (by omega) (by omega) (show vj (vw 0)≤k from h1) (by omega) (fun s q1 q2=>by
  obtain⟨a,b,hab⟩:=zh (s:=s) (by omega)
  have:=Bl hab
  exact⟨a,b,hab,by omega⟩) hz (h.dH.alloc [.int .i64 0,.int .i64 0,.int .i64 0])
 have r':aR AP.A 361 [.int .i64 k,.int .i64 29,.int .i64 0,.fn 75 [] []] (h.dH.alloc [.int .i64 0,.int .i64 0,.int .i64 0])=some (.agg [.int .i64 (xI k:Nat),.int .i64 (zU k:Nat),.int .i64 (AM k:Nat)],h.dH.alloc [.int .i64 0,.int .i64 0,.int .i64 0]):=r
 clear r
 generalize xI k=S at *
 generalize zU k=B at *
 generalize AM k=V at *
 refine tE (fn:=AP.f356) (h2:=(h.dH.alloc [.int .i64 0,.int .i64 0,.int .i64 0]).set h.next [.int .i64 S,.int .i64 B,.int .i64 V]) (e:=[(2,.aD h.next 0),(3,.int .i64 0)]) (vs:=[.agg [.int .i64 S,.int .i64 B,.int .i64 V],.int .i64 0]) rfl rfl rfl ?_ ?_ ?_
 · have a1:¬(k:Int)<1:=by omega
   have a2:¬(32768:Int)<(k:Int):=by omega
   clear sp hz
   simp (disch:=first|omega|(simp only[wM,RU,RX,uF,Nat.reduceAdd];first|done|omega|fail)|(simp (disch:=first|omega|(simp only[wM,RU,RX,uF,Nat.reduceAdd];first|done|omega|fail)|fail)only[wM,Cj,RZ,RU,RX,uF,Nat.reduceAdd];done)|fail)only[go_sem,vr,Ci,AP.f356,a1,a2,r']
 · simp (disch:=first|omega|(simp only[wM,RU,RX,uF,Nat.reduceAdd];first|done|omega|fail)|(simp (disch:=first|omega|(simp only[wM,RU,RX,uF,Nat.reduceAdd];first|done|omega|fail)|fail)only[wM,Cj,RZ,RU,RX,uF,Nat.reduceAdd];done)|fail)only[go_sem,vr,Ci,AP.f356,cn,mR];rfl
 · rfl
theorem GR (h:H) (x d:Int):aR AP.A 349 [.agg [.int .i64 x,.int .i64 0,.int .i64 d]] h=some (.bK [.agg [.int .i64 x,.int .i64 0,.int .i64 0],.agg [.int .i64 0,.int .i64 0,.int .i64 0],.bool false],h):=by
 refine tE (fn:=AP.f349) (h2:=(((((h.dH.alloc [.int .i64 x,.int .i64 0,.int .i64 d]).alloc [.int .i64 0,.int .i64 0,.int .i64 0]).alloc [.int .i64 0,.int .i64 0,.int .i64 0]).set (h.next+1) [.int .i64 x,.int .i64 0,.int .i64 0]).set (h.next+2) [.int .i64 0,.int .i64 0,.int .i64 0])) (e:=[(2,.aD (h.next+1) 0),(3,.aD (h.next+2) 0),(4,.bool false)]) (vs:=[.agg [.int .i64 x,.int .i64 0,.int .i64 0],.agg [.int .i64 0,.int .i64 0,.int .i64 0],.bool false]) rfl rfl rfl ?_ ?_ ?_
 · simp (disch:=first|omega|(simp only[wM,RU,RX,uF,Nat.reduceAdd];first|done|omega|fail)|(simp (disch:=first|omega|(simp only[wM,RU,RX,uF,Nat.reduceAdd];first|done|omega|fail)|fail)only[wM,Cj,RZ,RU,RX,uF,Nat.reduceAdd];done)|fail)only[go_sem,vr,Ci,AP.f349]
 · simp (disch:=first|omega|(simp only[wM,RU,RX,uF,Nat.reduceAdd];first|done|omega|fail)|(simp (disch:=first|omega|(simp only[wM,RU,RX,uF,Nat.reduceAdd];first|done|omega|fail)|fail)only[wM,Cj,RZ,RU,RX,uF,Nat.reduceAdd];done)|fail)only[go_sem,vr,Ci,AP.f349,cn,mR];rfl
 · rfl
theorem EB (h:H) (k d:Nat) (h1:3≤k) (h2:k≤258) (d1:1≤d) (d2:d≤32768):aR AP.A 349 [.agg [.int .i64 0,.int .i64 k,.int .i64 d]] h=some (.bK [.agg [.int .i64 (xp k:Nat),.int .i64 (zm k:Nat),.int .i64 (Af k:Nat)],.agg [.int .i64 (xI d:Nat),.int .i64 (zU d:Nat),.int .i64 (AM d:Nat)],.bool true],h):=by
 have k1:=fun g=>Oy g k h1 h2
 have k2:=fun g=>LF g d d1 d2
 have c0:((k:Int)==0)=false:=by simp;omega
 generalize xp k=S at *
 generalize zm k=B at *
 generalize Af k=V at *
 generalize xI d=S' at *
 generalize zU d=B' at *
 generalize AM d=V' at *
 obtain⟨g,eg⟩:∃g,g=((((((((h.dH.alloc [.int .i64 0,.int .i64 k,.int .i64 d]).alloc [.int .i64 0,.int .i64 0,.int .i64 0]).alloc [.int .i64 0,.int .i64 0,.int .i64 0]).alloc [.int .i64 0,.int .i64 0,.int .i64 0]).set (h.next+3) [.int .i64 S,.int .i64 B,.int .i64 V]).alloc [.int .i64 0,.int .i64 0,.int .i64 0]).set (h.next+4) [.int .i64 S',.int .i64 B',.int .i64 V']).set (h.next+1) [.int .i64 S,.int .i64 B,.int .i64 V]).set (h.next+2) [.int .i64 S',.int .i64 B',.int .i64 V']:=⟨_,rfl⟩
 refine tE (fn:=AP.f349) (h2:=g) (e:=[(2,.aD (h.next+1) 0),(3,.aD (h.next+2) 0),(4,.bool true)]) (vs:=[.agg [.int .i64 S,.int .i64 B,.int .i64 V],.agg [.int .i64 S',.int .i64 B',.int .i64 V'],.bool true]) rfl rfl rfl ?_ ?_ ?_
 · rw[eg]
   simp (disch:=first|omega|(simp only[wM,RU,RX,uF,Nat.reduceAdd];first|done|omega|fail)|(simp (disch:=first|omega|(simp only[wM,RU,RX,uF,Nat.reduceAdd];first|done|omega|fail)|fail)only[wM,Cj,RZ,RU,RX,uF,Nat.reduceAdd];done)|fail)only[go_sem,vr,Ci,AP.f349,c0,k1,k2]
 · rw[eg]
   simp (disch:=first|omega|(simp only[wM,RU,RX,uF,Nat.reduceAdd];first|done|omega|fail)|(simp (disch:=first|omega|(simp only[wM,RU,RX,uF,Nat.reduceAdd];first|done|omega|fail)|fail)only[wM,Cj,RZ,RU,RX,uF,Nat.reduceAdd];done)|fail)only[go_sem,vr,Ci,AP.f349,cn,mR];rfl
 · rfl
theorem Hy {h0 h:H} {w:Nat} {bs:List Nat} {ov lv:AV} {E:List (Int×Int)} (rl:yx 2 h0 lv E.length (E.flatMap wH)) (x:WX h0 h w bs ov) (s b v:Nat) (o:Ay E s) (hb:b≤16) (hv:v<2^b) (hl:bs.length+31≤65536):
 ∃h' ov',aR AP.A 350 [.aD w 0,lv,.agg [.int .i64 s,.int .i64 b,.int .i64 v]] h=some (.bK [],h')∧WX h0 h' w (bs++(u7 E s++vh v b)) ov'∧h.next≤h'.next∧(∀i,i<h.next→i≠w→ov.id?≠some i→h'.get i=h.get i)∧(∀j,ov'.id?=some j→ov.id?=some j∨h.next≤j):=by
 obtain⟨g,eg⟩:∃g,g=h.alloc [.int .i64 s,.int .i64 b,.int .i64 v]:=⟨_,rfl⟩
 have x1:WX h0 g w bs ov:=x.turn (by rw[eg];simp) (by rw[eg];simp) fun i hi=>by rw[eg,vg (by omega)]
 have gg:g.get h.next=some [.int .i64 s,.int .i64 b,.int .i64 v]:=by rw[eg,vk rfl]
 have hw:=h.lt _ _ x.wr.get
 have hon:ov.id?≠some h.next:=fun q=>by have:=(x.wr.own.lt q).2;omega
 obtain⟨le,l1,l2⟩:=rl.LZ
 obtain⟨n,c,q0,q1,q2,q3,q4⟩:=o.bits
 have e1:=l1 s ⟨by omega,by have:=o.lt;omega⟩
 have e2:=l2 g x1.ext _ _ q0
 obtain⟨h2,o2,k1,k2,k3⟩:=Ic x1.wr c n q1 q2 q3 (by omega)
 have x2:=x1.step k2 k3
 have g2:h2.get h.next=some [.int .i64 s,.int .i64 b,.int .i64 v]:=(k3.vP h.next (by rw[eg];simp) (by omega) hon).trans gg
 obtain⟨h3,o3,k4,k5,k6⟩:=xJ x2.wr v b hb hv (by simp [wc];omega)
 have x3:=x2.step k5 k6
 refine⟨h3,o3,vT (fn:=AP.f350) (e:=[]) (vs:=[]) rfl rfl rfl ?_ rfl,by rw[q4,←R7];exact x3, ?_,fun i hi hiw hio=> ?_,fun j hj=> ?_⟩
 · clear rl l1 l2 x x1 x2 x3 k2 k3 k5 k6 q4
   simp (disch:=omega)only[go_sem,vr,AP.f350,←eg,gg,e1,e2,k1,g2,k4]
 · have a1:=k3.next
   have a2:=k6.next
   rw[eg]at a1;simp at a1;omega
 · have a1:=k3.next
   have e:g.get i=h.get i:=by rw[eg,vg (by omega)]
   have gn:g.next=h.next+1:=by rw[eg];simp
   rw[k6.vP i (by omega) hiw (fun q=>by
    rcases k3.ids i q with z|z
    · exact hio z
    · omega),k3.vP i (by omega) hiw hio,e]
 · have gn:g.next=h.next+1:=by rw[eg];simp
   rcases k6.ids j hj with z|z
   · rcases k3.ids j z with y|y
     · exact .inl y
     · exact .inr (by omega)
   · have:=k3.next;exact .inr (by omega)
theorem Jg {v lv dv:AV} {ts:List Tok} {E D:List (Int×Int)} (hn:ts.length<1000000) (h0:H) (rd:yx 3 h0 v ts.length (v9 ts)) (rl:yx 2 h0 lv E.length (E.flatMap wH)) (rx:yx 2 h0 dv D.length (D.flatMap wH)) (w i:Nat) (t:Tok) (ht:ts[i]?=some t) (o:GY E D t) (tk:xL t) (tl:t.len≠0→t.lit=0) (h:H) (bs:List Nat) (ov:AV) (x:WX h0 h w bs ov) (hb:bs.length+48≤65000):
 ∃h' ov',aL (aR AP.A) bp AP.f339L0 (ay [(0,.aD w 0),(2,lv),(3,dv),(14,v),(15,.int .i64 ts.length),(16,.int .i64 i)] [0,2,3,14,15,16]) h=some (.normal,[(0,.aD w 0),(2,lv),(3,dv),(14,v),(15,.int .i64 ts.length),(16,.int .i64 (i+1:Nat))],h')∧WX h0 h' w (bs++vE E D t) ov':=by
 obtain⟨ad,a1,a2,a3⟩:=rd.ON
 have hi:i<ts.length:=(uu.1 ht).1
 have hI:(0:Int)≤(i:Int)∧(i:Int)<ts.length:=⟨by omega,by omega⟩
 have b1:=a1 _ hI
 obtain⟨_,_,_,b2⟩:=a3 h x.ext _ _ ht
 have n1:((i+1:Nat):Int)=(i:Int)+1:=by omega
 have ci:(i:Int)<(ts.length:Int):=hI.2
 have step:∀(S B V S' B' V':Nat) (cp:Bool),(∀g:H,aR AP.A 349 [.agg [.int .i64 t.lit,.int .i64 t.len,.int .i64 t.vL]] g=some (.bK [.agg [.int .i64 S,.int .i64 B,.int .i64 V],.agg [.int .i64 S',.int .i64 B',.int .i64 V'],.bool cp],g))→Ay E S→B≤5→V<2^B→(cp=true→Ay D S'∧B'≤13∧V'<2^B')→
  ∃h' ov',aL (aR AP.A) bp AP.f339L0 (ay [(0,.aD w 0),(2,lv),(3,dv),(14,v),(15,.int .i64 ts.length),(16,.int .i64 i)] [0,2,3,14,15,16]) h=some (.normal,[(0,.aD w 0),(2,lv),(3,dv),(14,v),(15,.int .i64 ts.length),(16,.int .i64 (i+1:Nat))],h')∧WX h0 h' w (bs++((u7 E S++vh V B)++if cp=true then u7 D S'++vh V' B' else [])) ov':=by
  intro S B V S' B' V' cp ks oS hB hV hcp
  obtain⟨g1,eg1⟩:∃g,g=(h.alloc [.int .i64 0,.int .i64 0,.int .i64 0]).set h.next [.int .i64 t.lit,.int .i64 t.len,.int .i64 t.vL]:=⟨_,rfl⟩
  obtain⟨g2,eg2⟩:∃g,g=(((g1.alloc [.int .i64 0,.int .i64 0,.int .i64 0]).alloc [.int .i64 0,.int .i64 0,.int .i64 0]).set g1.next [.int .i64 S,.int .i64 B,.int .i64 V]).set (g1.next+1) [.int .i64 S',.int .i64 B',.int .i64 V']:=⟨_,rfl⟩
  have n1':g1.next=h.next+1:=by rw[eg1];simp
  have n2':g2.next=h.next+3:=by rw[eg2];simp;omega
  have fl1:h.floor≤h.next:=x.wr.Jo
  have flg:g1.floor≤g1.next:=by rw[n1',eg1];simp;omega
  have gt1:g1.get h.next=some [.int .i64 t.lit,.int .i64 t.len,.int .i64 t.vL]:=by rw[eg1,vq rfl,vk rfl];rfl
  have gk1:∀j,j<h.next→g1.get j=h.get j:=fun j hj=>by rw[eg1,uY (by omega),vg (by omega)]
  have gk2:∀j,j<h.next→g2.get j=h.get j:=fun j hj=>by rw[eg2,uY (by omega),uY (by omega),vg (by simp;omega),vg (by omega),gk1 j hj]
  have x2:WX h0 g2 w bs ov:=x.turn (by rw[eg2,eg1];simp) (by omega) gk2
  have ga:g2.get g1.next=some [.int .i64 S,.int .i64 B,.int .i64 V]:=by rw[eg2,uY (by omega),vq rfl,vg (by simp),vk rfl];rfl
  have gb:g2.get (g1.next+1)=some [.int .i64 S',.int .i64 B',.int .i64 V']:=by rw[eg2,vq rfl,uY (by omega),vk (by simp)];rfl
  have hA:((g1.alloc [.int .i64 0,.int .i64 0,.int .i64 0]).alloc [.int .i64 0,.int .i64 0,.int .i64 0]).get g1.next=some [.int .i64 0,.int .i64 0,.int .i64 0]:=by rw[vg (by simp),vk rfl]
  have hB:(((g1.alloc [.int .i64 0,.int .i64 0,.int .i64 0]).alloc [.int .i64 0,.int .i64 0,.int .i64 0]).set g1.next [.int .i64 S,.int .i64 B,.int .i64 V]).get (g1.next+1)=some [.int .i64 0,.int .i64 0,.int .i64 0]:=by rw[uY (by omega),vk (by simp)]
  have hw:=h.lt _ _ x.wr.get
  have hov:∀j,h.next≤j→ov.id?≠some j:=fun j hj q=>by have:=(x.wr.own.lt q).2;omega
  obtain⟨h3,o3,k3,x3,nx3,kp3,id3⟩:=Hy rl x2 S B V oS (by omega) hV (by omega)
  have gb3:h3.get (g1.next+1)=some [.int .i64 S',.int .i64 B',.int .i64 V']:=(kp3 _ (by omega) (by omega) (hov _ (by omega))).trans gb
  have cl:(u7 E S++vh V B).length≤20:=by
   obtain⟨n,c,q0,q1,q2,q3,q4⟩:=oS.bits
   rw[q4];simp [wc,vh,vt];omega
  cases cp with
  | false =>
    refine⟨h3,o3, ?_,by simpa using x3⟩
    rw[n1]
    clear rd rl rx a1 a2 a3 x x2 x3 kp3 id3 gk1 gk2 hov hcp
    simp (disch:=omega)only[go_sem,vr,AP.f339L0,ci,b1,b2,←eg1,gt1,ks,hA,hB,←eg2,ga,k3,KV,uH,SD,Sf]
  | true =>
    obtain⟨oS',hB',hV'⟩:=hcp rfl
    obtain⟨h4,o4,k4,x4,_,_,_⟩:=Hy rx x3 S' B' V' oS' (by omega) hV' (by rw[uU];omega)
    refine⟨h4,o4, ?_,by rw[if_pos rfl,←R7];exact x4⟩
    rw[n1]
    clear rd rl rx a1 a2 a3 x x2 x3 x4 kp3 id3 gk1 gk2 hov hcp
    simp (disch:=omega)only[go_sem,vr,AP.f339L0,ci,b1,b2,←eg1,gt1,ks,hA,hB,←eg2,ga,k3,gb3,k4,KV,uH,SD,Sf]
 rcases o with ⟨c0,h2,h3⟩|⟨h1,h2,h3,h4,h5,h6⟩
 · obtain⟨y,hy⟩:∃y:Nat,t.lit=y:=R2 h2
   have yt:t.lit.toNat=y:=by omega
   rw[yt]at h3
   obtain⟨h',ov',k,xx⟩:=step y 0 0 0 0 0 false (fun g=>by
    rw[hy,c0];exact GR g y t.vL) h3 (by omega) (by omega) (fun q=>by cases q)
   refine⟨h',ov',k, ?_⟩
   rw[vE,if_pos c0,yt]
   simpa [vh,BC]using xx
 · obtain⟨L,hL⟩:∃y:Nat,t.len=y:=R2 (by omega)
   obtain⟨K,hK⟩:∃y:Nat,t.vL=y:=R2 (by omega)
   have Lt:t.len.toNat=L:=by omega
   have Kt:t.vL.toNat=K:=by omega
   rw[Lt]at h5
   rw[Kt]at h6
   have lb:=EZ (k:=L) (by omega) (by omega)
   have db:=ER (k:=K) (by omega) (by omega)
   obtain⟨h',ov',k,xx⟩:=step (xp L) (zm L) (Af L) (xI K) (zU K) (AM K) true (fun g=>by
    rw[tl (by omega),hL,hK];exact EB g L K (by omega) (by omega) (by omega) (by omega)) h5 lb.1 lb.2 (fun _=>⟨h6,db.1,db.2⟩)
   refine⟨h',ov',k, ?_⟩
   rw[vE,if_neg (by omega),Lt,Kt]
   simpa [R7]using xx
theorem Es {v lv dv:AV} {ts:List Tok} {E D:List (Int×Int)} (hn:ts.length<1000000) (h0:H) (rd:yx 3 h0 v ts.length (v9 ts)) (rl:yx 2 h0 lv E.length (E.flatMap wH)) (rx:yx 2 h0 dv D.length (D.flatMap wH)) (ok:∀t∈ts,GY E D t∧xL t∧(t.len≠0→t.lit=0)) (w:Nat):∀(q p:List Tok) (bs:List Nat) (h:H) (ov:AV),ts=p++q→WX h0 h w bs ov→bs.length+48* q.length≤65000→
 ∃h' ov',Lp AP.A [0,2,3,14,15,16] AP.f339L0 [(0,.aD w 0),(2,lv),(3,dv),(14,v),(15,.int .i64 ts.length),(16,.int .i64 p.length)] h=some (.exit 0,[(0,.aD w 0),(2,lv),(3,dv),(14,v),(15,.int .i64 ts.length),(16,.int .i64 ts.length),(17,.bool false)],h')∧WX h0 h' w (bs++vX E D q) ov'
 | [], p, bs, h, ov, hp, x, hb => by
   rw[Sd]at hp;subst hp
   refine⟨h,ov,sM ?_,by simpa [vX]using x⟩
   simp (disch:=omega)only[go_sem,vr,AP.f339L0]
 | t :: q, p, bs, h, ov, hp, x, hb => by
   have ht:ts[p.length]?=some t:=by rw[hp];simp
   obtain⟨o1,o2,o3⟩:=ok t (by rw[hp];simp)
   obtain⟨h1,ov1,k1,x1⟩:=Jg hn h0 rd rl rx w p.length t ht o1 o2 o3 h bs ov x (by simp only[RU]at hb;omega)
   have bl:=Ce o1
   obtain⟨h',ov',L,x2⟩:=Es hn h0 rd rl rx ok w q (p++[t]) _ h1 ov1 (by rw[hp];simp) x1 (by simp only[RU,uU]at hb ⊢;omega)
   have e3:(p++[t]).length=p.length+1:=by simp
   rw[e3]at L
   refine⟨h',ov',sN k1 L, ?_⟩
   have:vX E D (t::q)=vE E D t++vX E D q:=by simp [vX]
   rw[this,←R7];exact x2
theorem Ih {v lv dv:AV} {ts:List Tok} {E D:List (Int×Int)} (hn:ts.length<1000000) (h0:H) (rd:yx 3 h0 v ts.length (v9 ts)) (rl:yx 2 h0 lv E.length (E.flatMap wH)) (rx:yx 2 h0 dv D.length (D.flatMap wH)) (ok:∀t∈ts,GY E D t∧xL t∧(t.len≠0→t.lit=0)) (o256:Ay E 256) (w:Nat) (bs:List Nat) (h:H) (ov:AV) (x:WX h0 h w bs ov) (hb:bs.length+48* ts.length≤65000):
 ∃h',aR AP.A 339 [.aD w 0,v,lv,dv] h=some (.str (bytesOf (vB (bs++(vX E D ts++u7 E 256)))),h'):=by
 have ln:=rd.len
 obtain⟨h1,o1,L,x1⟩:=Es hn h0 rd rl rx ok w ts [] bs h ov rfl x hb
 have L':Lp AP.A [0,2,3,14,15,16] AP.f339L0 [(0,.aD w 0),(2,lv),(3,dv),(14,v),(15,.int .i64 ts.length),(16,.int .i64 0)] h=_:=L
 have bl:=EC (E:=E) (D:=D) (ts:=ts) fun t ht=>(ok t ht).1
 obtain⟨h2,o2,k2,x2,_⟩:=Hy rl x1 256 0 0 o256 (by omega) (by omega) (by rw[uU];omega)
 have k3:=Ig x2.wr
 have e:bs++vX E D ts++(u7 E 256++vh 0 0)=bs++(vX E D ts++u7 E 256):=by simp [vh,BC]
 rw[e]at k3
 have k2':aR AP.A 350 [.aD w 0,lv,.agg [.int .i64 256,.int .i64 0,.int .i64 0]] h1=some (.bK [],h2):=k2
 refine⟨h2,s7 (fn:=AP.f339) (e:=[(8,.str (bytesOf (vB (bs++(vX E D ts++u7 E 256)))))]) (vs:=[.str (bytesOf (vB (bs++(vX E D ts++u7 E 256))))]) rfl rfl rfl ?_ rfl⟩
 clear x1 x2 rd rl rx ok x
 generalize bytesOf (vB (bs++(vX E D ts++u7 E 256)))=TX at *
 simp (disch:=omega)only[go_sem,vr,AP.f339,ln,rK,L',k2',k3]
theorem Ai (c:ae) (e:Env) (h:H) (x y:X):ah c e h (.mn [x,y])=cW h (lM (x.ev e) (y.ev e)):=by
 show(fR lM (x.ev e) [y.ev e]).bind _=_
 simp only[fR]
 cases lM (x.ev e) (y.ev e)<;>rfl
def E1 (a b:Int):Int:=if b<a then b else a
theorem yO (k:IntKind) (a b:Int):lM (.int k a) (.int k b)=some (.int k (E1 a b)):=rfl
structure Tx (hb h:H) (x:Nat) (ov:AV) (out:List Nat):Prop where
 ext:Ext hb h
 fl:h.floor=hb.next
 Jn:h.floor≤h.next
 gx:h.get x=some [ov]
 lx:hb.next≤x
 own:vY 1 h ov out.length (yi out)
 nx:ov.id?≠some x
 HN:KQ out
theorem Tx.push {hb h:H} {x:Nat} {ov:AV} {out:List Nat} (v:Tx hb h x ov out) (b:Nat) (hb8:b<256) (hl:out.length<100000):∃h1 v1,kg (h.alloc [.int .u8 b]) 1 1 ov (.aE h.next 0 1 1)=some (v1,h1)∧v1.sc=true∧v1.cells=[v1]∧h1.get x=some [ov]∧h1.floor≤x∧Tx hb (h1.set x [v1]) x v1 (out++[b])∧h.next≤(h1.set x [v1]).next∧∀i,i<h.next→i≠x→ov.id?≠some i→(h1.set x [v1]).get i=h.get i:=by
 obtain⟨v1,h1,p1,p2,p3,p4,p5,p6⟩:=v.own.push v.Jn (z:=1) (m:=1) (by omega) (by omega) [.int .u8 b] rfl rfl (zP (by omega))
 have lx:=h.lt _ _ v.gx
 have fl:=v.fl
 have vlx:=v.lx
 have g1:h1.get x=some [ov]:=by rw[p5 x v.nx lx,v.gx]
 refine⟨h1,v1,p1,p2.sc,p2.cells,g1,by omega,⟨fun i c hi=> ?_,by simp;omega,by simp;have:=v.Jn;omega,by rw[vq rfl,g1];rfl,v.lx, ?_, ?_,fun y hy=> ?_⟩,by simp;omega,fun i h1' h2 h3=>by rw[uY h2,p5 i h3 h1']⟩
 · have l1:=hb.lt _ _ hi
   have e:=v.ext i c hi
   have l2:=h.lt _ _ e
   rw[uY (by omega),p5 i (fun q=>by have:=(v.own.lt q).1;omega) l2,e]
 · rw[FJ,uU]
   exact p2.mono (by simp) fun j hj=>by
    rw[p6]at hj
    have:=uh hj
    rw[uY (by omega)]
 · rw[p6];intro q;have:=uh q;omega
 · rcases Sj.1 hy with q|q
   · exact v.HN y q
   · simp at q;omega
theorem Em {hb : H} {x c L D : Nat} {l0 : AV} (hL : L ≤ 258) (hD1 : 1 ≤ D) : ∀ (m j : Nat) (out : List Nat) (h : H) (ov : AV), j + m = L → D ≤ out.length → out.length + m ≤ 10000 → Tx hb h x ov out → h.get c = some [l0, .int .i64 L, .int .i64 D] → c ≠ x → ov.id? ≠ some c →
 ∃h' ov',Lp AP.A [0,3,82,83] AP.f353L0 [(0,.aD x 0),(3,.aD c 0),(82,.int .i64 L),(83,.int .i64 j)] h=some (.exit 0,[(0,.aD x 0),(3,.aD c 0),(82,.int .i64 L),(83,.int .i64 L),(84,.bool false)],h')∧Tx hb h' x ov' (IP D m out)∧h.next≤h'.next
 | 0, j, out, h, ov, hj, hDo, hs, v, gc, hcx, hoc => by
   obtain rfl:j=L:=by omega
   refine⟨h,ov,sM ?_,v,uy _⟩
   simp (disch:=omega)only[go_sem,vr,AP.f353L0]
 | m + 1, j, out, h, ov, hj, hDo, hs, v, gc, hcx, hoc => by
   have cj:(j:Int)<(L:Int):=by omega
   have gx:=v.gx
   have lc:=h.lt _ _ gc
   obtain⟨y,hy⟩:∃y,out[out.length-D]?=some y:=⟨_,RW (by omega)⟩
   have gy:=O3 hy
   have gd:out.getD (out.length-D) 0=y:=by rw[RT,hy];rfl
   have y8:=v.HN y (uE hy)
   obtain⟨h1,v1,p1,p2,p3,p4,p5,t1,n1,k1⟩:=v.push y y8 (by omega)
   obtain ⟨h', ov', L', t2, n2⟩ := Em hL hD1 m (j + 1) (out ++ [y]) (h1.set x [v1]) v1 (by omega) (by simp; omega) (by simp; omega) t1 (by rw [k1 c lc hcx hoc, gc]) hcx (fun q => by
    have:=t1.own.lt q
    have e:=t1.nx
    have:(h1.set x [v1]).get c=h.get c:=k1 c lc hcx hoc
    have q2:=t1.own.2
    rcases q2 with ⟨q3,_⟩|⟨i2,q3,q4,_⟩
    · rw[q3]at q;cases q
    · rw [q3] at q
      obtain rfl:=uh q
      rw[this,gc]at q4
      have:=Sn List.length (uh q4)
      have q5:=uh q4
      cases hbo:yi (out++[y])with
      |nil=>rw[hbo]at q5;cases q5
      | cons a r =>
        cases hout:out with
        |nil=>rw[hout]at hDo;simp at hDo;omega
        | cons o r2 =>
          have hl:(yi (out++[y])).length=3:=by rw[←q5];rfl
          have e2:(yi (out++[y]))[1]?=some (.int .i64 L):=by rw[←q5];rfl
          have e3:∃z:Nat,(yi (out++[y]))[1]?=some (.int .u8 z):=by
           simp only[yi,uJ]
           rw[Mo]at hl
           rw[RW (by omega)]
           exact⟨_,rfl⟩
          obtain⟨z,e3⟩:=e3
          rw[e2]at e3
          cases uh e3)
   have e1:((j+1:Nat):Int)=(j:Int)+1:=by omega
   have e2:(out.length:Int)-(D:Int)=((out.length-D:Nat):Int):=by omega
   have bl:=Mo out
   rw[IP,gd]
   refine⟨h',ov',sN ?_ L',t2,by omega⟩
   rw[e1]
   rcases v.own.2 with ⟨_,q⟩|⟨id,q1,q2,q3,q4⟩
   · omega
   subst q1
   have ib:cH (.int .i64 ((out.length:Int)-(D:Int))) out.length=some (out.length-D):=by
    rw[e2]
    have:((out.length-D:Nat):Int)<out.length:=by omega
    simp [cH,nk,this]
   have dl:(D:Int)≤100000:=by omega
   clear v t1 t2 L' k1 hoc e2
   generalize yi out=BO at *
   simp (disch:=omega)only[go_sem,vr,AP.f353L0,cj,gx,gc,zc,ib,q2,gy,bl,p1,p2,p3,p4,p5]
def HF (out:List Nat) (t:Tok):Option (List Nat):=match v7 out.length t with
 |none=>none
 |some s'=>if 8192<s' then none else some (vG out t)
theorem Oz {hb h : H} {x : Nat} {ov : AV} {out : List Nat} (v : Tx hb h x ov out) (t : Tok) (hl : out.length ≤ 8192) :
 ∃h' ov',aR AP.A 353 [.aD x 0,.agg [.int .i64 t.lit,.int .i64 t.len,.int .i64 t.vL]] h=some (.bool (HF out t).isSome,h')∧Tx hb h' x ov' ((HF out t).getD out)∧h.next≤h'.next:=by
 obtain⟨g,eg⟩:∃g,g=h.alloc [.int .i64 t.lit,.int .i64 t.len,.int .i64 t.vL]:=⟨_,rfl⟩
 have lx:=h.lt _ _ v.gx
 have gn:g.next=h.next+1:=by rw[eg];simp
 have gk:∀i,i<h.next→g.get i=h.get i:=fun i hi=>by rw[eg,vg (by omega)]
 have gc:g.get h.next=some [.int .i64 t.lit,.int .i64 t.len,.int .i64 t.vL]:=by rw[eg,vk rfl]
 have v1:Tx hb g x ov out:=⟨fun i c hi=>by
  have e:=v.ext i c hi
  have:=h.lt _ _ e
  rw[gk i this,e],by rw[eg];simpa using v.fl,by rw[gn,eg];have:=v.Jn;simp;omega,by rw[gk x lx,v.gx],v.lx,v.own.mono (by rw[eg];simp) fun i hi=>gk i (v.own.lt hi).2,v.nx,v.HN⟩
 have gx:=v1.gx
 have hov:ov.id?≠some h.next:=fun q=>by have:=(v.own.lt q).2;omega
 have ln:iJ false ov=some (.int .i64 out.length):=v.own.rd.len
 unfold HF v7
 by_cases c0:t.len=0
 · rw [if_pos c0]
   rw[c0]at eg gc
   rw[c0]
   by_cases c1:t.lit<0∨255<t.lit∨t.vL≠0
   · rw [if_pos c1]
     refine⟨g,ov,s7 (fn:=AP.f353) (e:=[(4,.bool false)]) (vs:=[.bool false]) rfl rfl rfl ?_ rfl,v1,by omega⟩
     clear v v1
     by_cases d1:t.lit<0
     · simp (disch:=omega)only[go_sem,vr,AP.f353,←eg,gc,d1]
     · by_cases d2:255<t.lit
       · simp (disch:=omega)only[go_sem,vr,AP.f353,←eg,gc,d1,d2]
       · have d3:(t.vL !=0)=true:=by simp;omega
         simp (disch:=omega)only[go_sem,vr,AP.f353,←eg,gc,d1,d2,d3]
   · rw[if_neg c1]
     have d1:¬t.lit<0:=by omega
     have d2:¬255<t.lit:=by omega
     have d3:(t.vL !=0)=false:=by simp;omega
     by_cases c2:(8192:Int)<(out.length:Int)+1
     · simp only[if_pos c2]
       refine⟨g,ov,s7 (fn:=AP.f353) (e:=[(4,.bool false)]) (vs:=[.bool false]) rfl rfl rfl ?_ rfl,v1,by omega⟩
       have d4:(8192:Int)≤(out.length:Int):=by omega
       clear v v1
       simp (disch:=omega)only[go_sem,vr,AP.f353,←eg,gc,d1,d2,d3,gx,ln,d4]
     · simp only[if_neg c2]
       obtain⟨b,hb8⟩:∃b:Nat,t.lit=b:=R2 (by omega)
       obtain⟨h1,w1,p1,p2,p3,p4,p5,t1,n1,k1⟩:=v1.push b (by omega) (by omega)
       have eo:vG out t=out++[b]:=by unfold vG;rw[if_pos c0,hb8];rfl
       refine⟨h1.set x [w1],w1,s7 (fn:=AP.f353) (e:=[(4,.bool true)]) (vs:=[.bool true]) rfl rfl rfl ?_ rfl,by simp only[Option.getD_some];rw[eo];exact t1,by omega⟩
       have d4:¬(8192:Int)≤(out.length:Int):=by omega
       rw[hb8]at gc d1 d2 eg ⊢
       have wb1:IntKind.wrap .u8 (b:Int)=b:=Q9 (by omega)
       clear v v1 t1 k1
       simp (disch:=omega)only[go_sem,vr,AP.f353,←eg,gc,d1,d2,d3,gx,ln,d4,wb1,p1,p2,p3,p4,p5]
 · rw [if_neg c0]
   have cb:(t.len==0)=false:=by simp;omega
   by_cases c1:t.len<3∨258<t.len∨t.vL<1∨32768<t.vL∨(out.length:Int)<t.vL∨t.lit≠0
   · rw [if_pos c1]
     refine⟨g,ov,s7 (fn:=AP.f353) (e:=[(4,.bool false)]) (vs:=[.bool false]) rfl rfl rfl ?_ rfl,v1,by omega⟩
     clear v v1
     by_cases d1:t.lit=0
     · have d1':(t.lit !=0)=false:=by simp [d1]
       by_cases d2:t.len<3
       · simp (disch:=omega)only[go_sem,vr,AP.f353,←eg,gc,cb,d1',d2]
       · by_cases d3:258<t.len
         · simp (disch:=omega)only[go_sem,vr,AP.f353,←eg,gc,cb,d1',d2,d3]
         · by_cases d4:t.vL<1
           · simp (disch:=omega)only[go_sem,vr,AP.f353,←eg,gc,cb,d1',d2,d3,d4]
           · have d5:E1 out.length 32768<t.vL:=by unfold E1;split<;>omega
             simp (disch:=omega)only[go_sem,vr,AP.f353,←eg,gc,cb,d1',d2,d3,d4,gx,ln,Ai,yO,d5]
     · have d1':(t.lit !=0)=true:=by simp [d1]
       simp (disch:=omega)only[go_sem,vr,AP.f353,←eg,gc,cb,d1']
   · rw [if_neg c1]
     have d1:(t.lit !=0)=false:=by simp;omega
     have d2:¬t.len<3:=by omega
     have d3:¬258<t.len:=by omega
     have d4:¬t.vL<1:=by omega
     have d5:¬E1 out.length 32768<t.vL:=by unfold E1;split<;>omega
     by_cases c2:(8192:Int)<(out.length:Int)+t.len
     · simp only[if_pos c2]
       refine⟨g,ov,s7 (fn:=AP.f353) (e:=[(4,.bool false)]) (vs:=[.bool false]) rfl rfl rfl ?_ rfl,v1,by omega⟩
       have sb:t.len≤258:=by omega
       have sb2:0≤t.len:=by omega
       clear v v1
       simp (disch:=omega)only[go_sem,vr,AP.f353,←eg,gc,cb,d1,d2,d3,d4,gx,ln,Ai,yO,d5,c2]
     · simp only[if_neg c2]
       obtain⟨L,hL⟩:∃y:Nat,t.len=y:=R2 (by omega)
       obtain⟨D,hD⟩:∃y:Nat,t.vL=y:=R2 (by omega)
       rw[hL,hD]at gc eg
       obtain⟨h',ov',L1,t2,n2⟩:=Em (hb:=hb) (c:=h.next) (l0:=.int .i64 t.lit) (L:=L) (D:=D) (by omega) (by omega) L 0 out g ov (by omega) (by omega) (by omega) v1 gc (by omega) hov
       have L1':Lp AP.A [0,3,82,83] AP.f353L0 [(0,.aD x 0),(3,.aD h.next 0),(82,.int .i64 L),(83,.int .i64 0)] g=_:=L1
       have eo:vG out t=IP D L out:=by
        unfold vG;rw[if_neg c0,hL,hD];rfl
       refine⟨h',ov',s7 (fn:=AP.f353) (e:=[(4,.bool true)]) (vs:=[.bool true]) rfl rfl rfl ?_ rfl,by simp only[Option.getD_some];rw[eo];exact t2,by omega⟩
       rw[hL]at cb d2 d3 c2 ⊢
       rw[hD]at d4 d5 ⊢
       have sb:L≤258:=by omega
       clear v v1 t2 L1
       simp (disch:=omega)only[go_sem,vr,AP.f353,←eg,gc,cb,d1,d2,d3,d4,gx,ln,Ai,yO,d5,c2,rK,L1']
end Ab
