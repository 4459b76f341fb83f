/- Part C2. -/
import Derived.Test.YtmckmpeekikfdaaGreatC1
set_option linter.unusedSimpArgs false
set_option linter.unusedVariables false
namespace Ab
open Go
theorem dt {p:Prop} [Decidable p] (h:p):decide p=true:=VE h
theorem df {p:Prop} [Decidable p] (h:¬p):decide p=false:=VD h
theorem Ug {a b:Int} (h:a=b):(a==b)=true:=by simp [h]
theorem Uf {a b:Int} (h:¬a=b):(a==b)=false:=by simp [h]
theorem Uk {a b:Int} (h:¬a=b):(a !=b)=true:=by simp [h]
theorem Uj {a b:Int} (h:a=b):(a !=b)=false:=by simp [h]
theorem wi {n:Int} (h: -9223372036854775808≤n∧n<9223372036854775808):IntKind.wrap .i64 n=n:=uw h.1 (by omega)
theorem wb {n:Int} (h:0≤n∧n<256):IntKind.wrap .u8 n=n:=by
 simp [IntKind.wrap,IntKind.bits,IntKind.signed];omega
theorem QO {i:Int} {n:Nat} (h:0≤i∧i<n):cN (.int .i64 i) n=some i.toNat:=by
 simp [cN,n7,h]
def at_:Nat→aG→aG
 |0,.seq a _=>a
 |0,c=>c
 |n+1,.seq _ b=>at_ n b
 |_+1,c=>c
def JT:Nat→aG→aG
 |0,c=>c
 |n+1,.seq _ b=>JT n b
 |_+1,c=>c
theorem xL (a b:aG):at_ 0 (.seq a b)=a:=rfl
theorem xO (n:Nat) (a b:aG):at_ (n+1) (.seq a b)=at_ n b:=rfl
theorem MD (c:aG):JT 0 c=c:=rfl
theorem MC (n:Nat) (a b:aG):JT (n+1) (.seq a b)=JT n b:=rfl
theorem yY {h:H} {id i:Nat} (e:¬i=id):(h.del id).get i=h.get i:=by rw[H.dU,if_neg e]
theorem Cz (h:H):h.dQ.next=h.next:=vq rfl rfl
theorem Cp (h:H):h.dQ.floor=h.next:=vq rfl rfl
theorem Cq (h:H) (i:Nat):h.dQ.get i=h.get i:=vq rfl rfl
theorem Gm (h:H) (i:Nat):(h.del i).next=h.next:=vq rfl rfl
theorem Ge (h:H) (i:Nat):(h.del i).floor=h.floor:=vq rfl rfl
theorem wh {h:H} {cs:List AV} {i:Nat} (e:i=h.next):(h.alloc cs).get i=some cs:=by rw[H.aW,if_pos e]
theorem v8 {h:H} {cs:List AV} {i:Nat} (e:¬i=h.next):(h.alloc cs).get i=h.get i:=by rw[H.aW,if_neg e]
theorem wu {h:H} {cs:List AV} {id i:Nat} (e:i=id):(h.set id cs).get i=(h.get i).map fun _=>cs:=by rw[H.dw,if_pos e,e]
theorem vX {h:H} {cs:List AV} {id i:Nat} (e:¬i=id):(h.set id cs).get i=h.get i:=by rw[H.dw,if_neg e]
def yu {α:Type} (b:Bool) (x:α):Option α:=if b then some x else none
theorem Jk {α:Type} (x:α):yu true x=some x:=rfl
theorem JP (h:H) (id off n:Nat) (v cs:List AV):uN h id off n v (some cs)=yu (decide (h.floor≤id)&&(decide (v.length=n)&&(decide (off+n≤cs.length)&&AV.aC v))) (h.set id (setFrom cs off v)):=by
 simp only[uN,vu,yu]
 by_cases c:h.floor≤id∧v.length=n∧off+n≤cs.length∧AV.aC v=true
 · rw[if_pos c];obtain⟨c1,c2,c3,c4⟩:=c;simp [c1,c2,c3,c4]
 · rw[if_neg c,if_neg];simpa using c
theorem MN (n:Nat) (cs:List AV) (off:Nat):gP true n cs off=yu (decide (off+n≤cs.length)) (.agg ((cs.drop off).take n)):=by
 simp only[gP,yu,if_true,decide_eq_true_eq]
theorem Lm (z:List AV):dR z []=some z:=rfl
def Hm (r:List (Nat×Nat×AV)) (p:Option (List AV)):Option (List AV):=p.bind fun z=>dR z r
theorem Ju (r:List (Nat×Nat×AV)) (z:List AV):Hm r (some z)=dR z r:=rfl
theorem Ll (z:List AV) (o n:Nat) (v:AV) (r:List (Nat×Nat×AV)):dR z ((o,n,v)::r)=Hm r (yu (decide (v.cells.length=n)&&(decide (o+n≤z.length)&&AV.aC v.cells)) (setFrom z o v.cells)):=by
 simp only[dR,yu]
 by_cases c:v.cells.length=n∧o+n≤z.length∧AV.aC v.cells=true
 · rw[if_pos c];obtain⟨c1,c2,c3⟩:=c;simp [c1,c2,c3,Hm]
 · rw[if_neg c,if_neg]; · rfl
   simpa using c
def GY (p:Option (List AV)) (f:Nat→AV):Option (List AV×(Nat→AV)):=p.bind fun cs=>some (cs,f)
theorem K0 (cs:List AV) (f:Nat→AV):GY (some cs) f=some (cs,f):=rfl
theorem E0 (e:Env) (z:List AV):aY e (.alloc z)=GY (yu (AV.aC z) z) (fun i=>.aE i 0):=by
 simp only[aY,yu];split<;>rfl
theorem Jh (e:Env) (n:Nat) (x:X):aY e (.box n x)=GY (yu (decide ((x.ev e).cells.length=n)&&AV.aC (x.ev e).cells) (x.ev e).cells) (fun i=>.aE i 0):=by
 simp only[aY,yu]
 by_cases c:(x.ev e).cells.length=n∧AV.aC (x.ev e).cells=true
 · rw[if_pos c];simp [c,GY]
 · rw[if_neg c,if_neg]; · rfl
   simpa using c
theorem DT (e:Env) (sz len:Nat) (z:List AV) (ps:List (Nat×X)):aY e (.cC sz len z ps)=GY (Hm (ps.map fun p=>(p.1* sz,sz,p.2.ev e)) (yu (decide (z.length=sz)&&(decide (0<sz)&&AV.aC z)) (dJ len z))) (fun i=>.aF i 0 len sz):=by
 simp only[aY,yu]
 by_cases c:z.length=sz∧0<sz∧AV.aC z=true
 · rw[if_pos c];simp [c,GY,Hm]
 · rw[if_neg c,if_neg]; · rfl
   simpa using c
theorem Mi (z:List AV):dJ 0 z=[]:=rfl
theorem Mh (n:Nat) (z:List AV):dJ (n+1) z=z++dJ n z:=rfl
def Qj (xc:List Nat) (e:Env) (h:H) (b:Bool):dE:=if b then some (.normal,ay e xc,h)else none
theorem Lz (xc:List Nat) (e:Env) (h:H):Qj xc e h true=some (.normal,ay e xc,h):=rfl
def Uh (c:ah) (ops:List ak) (fl:List (Nat×List Nat)) (xc:List Nat) (p:Option (Env×H×List H)):dE:=p.bind fun q=>Qj xc q.1 q.2.1 (aZ c ops q.1 q.2.2 fl)
theorem NL (c:ah) (ops:List ak) (fl:List (Nat×List Nat)) (xc:List Nat) (e:Env) (h:H) (gs:List H):Uh c ops fl xc (some (e,h,gs))=Qj xc e h (aZ c ops e gs fl):=rfl
theorem Jf (c:ah) (l:bG) (ord:List Nat) (ops:List ak) (x:Nat×List Nat) (fl:List (Nat×List Nat)) (xc:List Nat) (e:Env) (h:H):aL c l (.iW ord ops (x::fl) xc) e h=Uh c ops (x::fl) xc (aN c ops e h):=by
 rw[aL];rfl
theorem N4 (c:ah) (ops:List ak) (e:Env) (gs:List H):aZ c ops e gs []=true:=rfl
def Tk (c:ah) (ops:List ak) (e:Env) (gs:List H) (i:Nat) (ks:List Nat):Bool:=ks.all (bE c ops e gs i)
theorem N3 (c:ah) (ops:List ak) (e:Env) (gs:List H) (i:Nat) (ks:List Nat) (r:List (Nat×List Nat)):aZ c ops e gs ((i,ks)::r)=(Tk c ops e gs i ks&&aZ c ops e gs r):=rfl
theorem N1 (c:ah) (ops:List ak) (e:Env) (gs:List H) (i:Nat):Tk c ops e gs i []=true:=rfl
def QC (c : ah) (e : Env) (o : Option ak) (g : Option H) : Bool := match o, g with
 | some o, some g =>
   if o.op.aI then
    match o.dst.map (look e)with
    |some (.bL [])=>true
    | some v => (match v.id?, aY e o.op with
      |some id,some b=>(match g.get id with|some cs=>AV.fS cs b.1|none=>false)
      |_,_=>false)
    |none=>false
   else match o.dst.map (look e)with
    |some v=>(match aj c o e g with|some (u,_)=>AV.beq u v|none=>false)
    |none=>false
 |_,_=>false
theorem N0 (c:ah) (ops:List ak) (e:Env) (gs:List H) (i k:Nat) (r:List Nat):Tk c ops e gs i (k::r)=(QC c e (ops[i]?) (gs[k]?)&&Tk c ops e gs i r):=by
 unfold Tk
 rw[List.all_cons]
 congr 1
def Uc (v:AV) (p:Option (AV×H)):Bool:=match p with|some (u,_)=>AV.beq u v|none=>false
theorem N2 (v u:AV) (h:H):Uc v (some (u,h))=AV.beq u v:=rfl
def QJ (b:Bool) (x y:Bool):Bool:=if b then x else y
theorem NY (x y:Bool):QJ false x y=y:=rfl
def EW (c:ah) (e:Env) (o:Option ak) (g:Option H):Bool:=QC c e o g
theorem NX (c:ah) (e:Env) (d:Nat) (op:bT) (g:H):QC c e (some ⟨some d,op,none⟩) (some g)=QJ op.aI (EW c e (some ⟨some d,op,none⟩) (some g)) (Uc (look e d) (ai c e g op)):=by
 unfold EW QC QJ
 dsimp only
 cases op.aI<;>rfl
theorem NW (c:ah) (e:Env) (d:Nat) (op:bT) (k:Nat) (w:Bool) (g:H):QC c e (some ⟨some d,op,some (k,w)⟩) (some g)=QJ op.aI (EW c e (some ⟨some d,op,some (k,w)⟩) (some g)) (Uc (look e d) (lH w c e g op (look e k))):=by
 unfold EW QC QJ
 dsimp only
 cases op.aI with
 |true=>rfl
 |false=>rw[nk];rfl
mutual
theorem beq_refl:∀a:AV,AV.beq a a=true
 | .bot=>rfl
 | .bool b=>by simp [AV.beq]
 | .int k n=>by simp [AV.beq]
 | .str s=>DC s
 | .cm=>rfl
 | .aE i o=>by simp [AV.beq]
 | .aK c o=>by simp [AV.beq,yh c]
 | .aP=>rfl
 | .aF i o l z=>by simp [AV.beq]
 | .aV t c o l z=>by simp [AV.beq,yh c]
 | .fn f a b=>by simp [AV.beq,yh a,yh b]
 | .eV=>rfl
 | .iface t v=>by simp [AV.beq,beq_refl v]
 | .eX=>rfl
 | .agg c=>by simp [AV.beq,yh c]
 | .bL c=>by simp [AV.beq,yh c]
theorem yh:∀l:List AV,AV.fS l l=true
 |[]=>rfl
 |a::l=>by simp [AV.fS,beq_refl a,yh l]
end
theorem NZ (x y:Bool):QJ true x y=x:=rfl
def QR (c:Option (List AV)) (d:List AV):Bool:=match c with|some cs=>AV.fS cs d|none=>false
theorem NI (c d:List AV):QR (some c) d=AV.fS c d:=rfl
def GJ (v : AV) (b : Option (List AV × (Nat → AV))) (g : H) : Bool := match v with
 | .bL []=>true
 | v => match v.id?, b with
   |some id,some b=>QR (g.get id) b.1
   |_,_=>false
theorem Mt (b:Option (List AV×(Nat→AV))) (g:H):GJ (.bL []) b g=true:=rfl
theorem Ms (i o:Nat) (cs:List AV) (f:Nat→AV) (g:H):GJ (.aE i o) (some (cs,f)) g=QR (g.get i) cs:=rfl
theorem Mr (i o l z:Nat) (cs:List AV) (f:Nat→AV) (g:H):GJ (.aF i o l z) (some (cs,f)) g=QR (g.get i) cs:=rfl
theorem DL {c : ah} {e : Env} {d : Nat} {op : bT} {gd : Option (Nat × Bool)} {g : H} (hb : op.aI = true) : EW c e (some ⟨some d, op, gd⟩) (some g) = GJ (look e d) (aY e op) g := by
 unfold EW QC
 dsimp only
 rw[hb,if_pos rfl]
 show (match some (look e d) with
  |some (.bL [])=>true
  | some v => (match v.id?, aY e op with
    |some id,some b=>(match g.get id with|some cs=>AV.fS cs b.1|none=>false)
    |_,_=>false)
  |none=>false)=_
 generalize look e d=v
 unfold GJ QR
 cases v with
 |bL vs=>cases vs<;>rfl
 |_=>cases aY e op<;>rfl
theorem EF (c:ah) (e:Env) (d:Nat) (z:List AV) (gd:Option (Nat×Bool)) (g:H):EW c e (some ⟨some d,.alloc z,gd⟩) (some g)=GJ (look e d) (aY e (.alloc z)) g:=DL rfl
theorem Ib (c:ah) (e:Env) (d n:Nat) (x:X) (gd:Option (Nat×Bool)) (g:H):EW c e (some ⟨some d,.box n x,gd⟩) (some g)=GJ (look e d) (aY e (.box n x)) g:=DL rfl
theorem Dx (c:ah) (e:Env) (d n m:Nat) (z:List AV) (ps:List (Nat×X)) (gd:Option (Nat×Bool)) (g:H):EW c e (some ⟨some d,.cC n m z ps,gd⟩) (some g)=GJ (look e d) (aY e (.cC n m z ps)) g:=DL rfl
theorem FR (c:ah) (e:Env) (d n m:Nat) (z:List AV) (x y:X) (gd:Option (Nat×Bool)) (g:H):EW c e (some ⟨some d,.iY n m z x y,gd⟩) (some g)=GJ (look e d) (aY e (.iY n m z x y)) g:=DL rfl
theorem GU (b:Bool):AV.beq (.bool b) (.bool b)=true:=by simp [AV.beq]
theorem GX:AV.beq (.bL []) (.bL [])=true:=rfl
theorem GV:AV.beq .aP .aP=true:=rfl
theorem EZ:AV.beq .cm .cm=true:=rfl
theorem LJ (sz id off len:Nat) (i:AV):fP sz (.aF id off len sz) i=uX id off sz (cN i len):=by simp [fP,uX]
theorem LH (t:Bool) (cells:List AV) (sz off len:Nat) (i:AV):fP sz (.aV t cells off len sz) i=uY cells off sz (cN i len):=by simp [fP,uY]
def yo (n:Nat) (z:List AV):List AV:=dJ n z
def NO (sz bytes:Nat) (zero:List AV) (l c:AV):Option (List AV×(Nat→AV)):=
 match l,c with
 | .int .i64 l,.int .i64 c=>GY (yu (decide (0≤l)&&(decide (l≤c)&&(decide (c≤9223372036854775807)&&(decide ((bytes:Int)* c≤281474976710656)&&(decide (zero.length=sz)&&(decide (0<sz)&&AV.aC zero)))))) (yo c.toNat zero)) (fun i=>.aF i 0 l.toNat sz)
 |_,_=>none
theorem Gl (sz bytes:Nat) (zero:List AV) (l c:Int):NO sz bytes zero (.int .i64 l) (.int .i64 c)=GY (yu (decide (0≤l)&&(decide (l≤c)&&(decide (c≤9223372036854775807)&&(decide ((bytes:Int)* c≤281474976710656)&&(decide (zero.length=sz)&&(decide (0<sz)&&AV.aC zero)))))) (yo c.toNat zero)) (fun i=>.aF i 0 l.toNat sz):=rfl
theorem GZ (e : Env) (sz bytes : Nat) (zero : List AV) (l c : X) : aY e (.iY sz bytes zero l c) = NO sz bytes zero (l.ev e) (c.ev e) := by
 simp only[aY]
 cases l.ev e with
 | int k l => cases k <;> cases c.ev e with
   | int k2 c => cases k2 <;> first
     |rfl
     | (simp only [Gl, yu]
        by_cases q:0≤l∧l≤c∧c≤9223372036854775807∧(bytes:Int)* c≤281474976710656∧zero.length=sz∧0<sz∧AV.aC zero=true
        · rw[if_pos q];obtain⟨q1,q2,q3,q4,q5,q6,q7⟩:=q
          rw[if_pos]
          · rfl
          · simp [q1,q2,q3,q4,q5,q6,q7]
        · rw[if_neg q,if_neg]
          · rfl
          · simpa using q)
   |_=>rfl
 |_=>cases c.ev e<;>rfl
theorem AN (i o l z:Nat):jg false (.aF i o l z)=some (.int .i64 l):=rfl
theorem F7:jg false .aP=some (.int .i64 0):=rfl
theorem Iy (t:Bool) (c:List AV) (o l z:Nat):jg false (.aV t c o l z)=some (.int .i64 l):=rfl
theorem yd (s:ByteArray):jg true (.str s)=some (.int .i64 s.size):=rfl
theorem MF (a b:Nat):((a:Int)+(b:Int)).toNat=a+b:=by omega
theorem I7 (a:Nat):((a:Int)).toNat=a:=by omega
def zg (s:ByteArray) (i:Nat):Nat:=((s[i]?).map (·.toNat)).getD 0
theorem DU (s:ByteArray) (i:Nat):zg s i<256:=by
 unfold zg
 cases s[i]? with
 |none=>simp
 |some b=>simp;exact b.toNat_lt
theorem Br {s:ByteArray} {i:Int} (h:0≤i∧i<s.size):mK (.str s) (.int .i64 i)=some (.int .u8 (zg s i.toNat:Nat)):=by
 have hi:i.toNat<s.size:=by omega
 simp [mK,QO h,zg,hi]
def C6 {α:Type} (b:Bool) (x y:Option α):Option α:=if b then x else y
theorem Ml {α:Type} (x y:Option α):C6 true x y=x:=rfl
theorem Mk {α:Type} (x y:Option α):C6 false x y=y:=rfl
def QB (n o k:Nat) (p:Option (List AV)):Option (Nat×List AV):=p.bind fun cs=>yu (decide (o+k* n≤cs.length)) (k,(cs.drop o).take (k* n))
theorem Mq (n o k:Nat) (cs:List AV):QB n o k (some cs)=yu (decide (o+k* n≤cs.length)) (k,(cs.drop o).take (k* n)):=rfl
theorem NU (h:H) (n p o k:Nat):aS h n (.aF p o k n)=QB n o k (h.get p):=by
 simp only[aS,if_true,QB]
 cases h.get p with
 |none=>rfl
 |some cs=>simp only[vu,yu,decide_eq_true_eq]
theorem NS (h:H) (t:Bool) (n o k:Nat) (cs:List AV):aS h n (.aV t cs o k n)=yu (decide (o+k* n≤cs.length)) (k,(cs.drop o).take (k* n)):=by
 simp only[aS,if_true,yu,decide_eq_true_eq]
theorem NT (h:H) (n:Nat):aS h n .aP=some (0,[]):=vq rfl rfl
theorem NV (h:H) (s:ByteArray):aS h 1 (.str s)=some (s.size,s.data.toList.map fun b=>.int .u8 b.toNat):=vq rfl rfl
def QP (h:H) (n z:Nat) (a:AV) (p:Option (Nat×List AV)):Option (AV×H):=p.bind fun r=>dM h n z a r.1 r.2
theorem KW (h:H) (n z:Nat) (a:AV) (m:Nat) (bs:List AV):QP h n z a (some (m,bs))=dM h n z a m bs:=rfl
theorem NH (h:H) (n z:Nat) (a b:AV):kS h n z a b=QP h n z a (aS h n b):=vq rfl rfl
def Ts (h:H) (n z p o k m:Nat) (bs:List AV) (q:Option (List AV)):Option (AV×H):=q.bind fun cs=>
 C6 (decide (o+(k+m)* n≤cs.length)) (some (.aF p o (k+m) n,h.set p (setFrom cs (o+k* n) bs))) (C6 (decide (o+k* n=cs.length)&&roomy z (k+m)) (some (.aF h.next 0 (k+m) n,(h.del p).alloc (cs.drop o++bs))) none)
theorem ND (h:H) (n z p o k m:Nat) (bs cs:List AV):Ts h n z p o k m bs (some cs)=C6 (decide (o+(k+m)* n≤cs.length)) (some (.aF p o (k+m) n,h.set p (setFrom cs (o+k* n) bs))) (C6 (decide (o+k* n=cs.length)&&roomy z (k+m)) (some (.aF h.next 0 (k+m) n,(h.del p).alloc (cs.drop o++bs))) none):=rfl
theorem NG (h : H) (n z p o k m : Nat) (bs : List AV) : dM h n z (.aF p o k n) m bs = C6 (decide (m = 0)) (some (.aF p o k n, h)) (C6 (AV.aC bs && (decide (0 < n) && decide (h.floor ≤ p))) (Ts h n z p o k m bs (h.get p)) none) := by
 unfold dM C6
 by_cases c:m=0
 · simp [c]
 · rw [if_neg c]
   simp only[decide_eq_true_eq,if_neg c]
   by_cases c1:AV.aC bs=false∨n=0
   · rw[if_pos c1,if_neg]
     rcases c1 with c1|c1
     · simp [c1]
     · simp [c1]
   · rw[if_neg c1]
     have q1:AV.aC bs=true:=by cases q:AV.aC bs with|true=>rfl|false=>exact absurd (.inl q) c1
     by_cases c2:h.floor≤p
     · have qq:(AV.aC bs&&(decide (0<n)&&decide (h.floor≤p)))=true:=by simp [q1,c2];omega
       simp only[true_and,if_pos c2,qq,if_true,Ts,C6]
       cases h.get p with
       |none=>rfl
       |some cs=>simp only[vu,decide_eq_true_eq,vA]
     · have qq:(AV.aC bs&&(decide (0<n)&&decide (h.floor≤p)))=false:=by simp [c2]
       simp only[true_and,if_neg c2,qq];rfl
theorem NF (h:H) (n z m:Nat) (bs:List AV):dM h n z .aP m bs=C6 (decide (m=0)) (some (.aP,h)) (C6 (AV.aC bs&&(decide (0<n)&&roomy z m)) (some (.aF h.next 0 m n,h.alloc bs)) none):=by
 unfold dM C6
 by_cases c:m=0
 · simp [c]
 · rw[if_neg c]
   simp only[decide_eq_true_eq,if_neg c]
   by_cases c1:AV.aC bs=false∨n=0
   · rw[if_pos c1,if_neg]
     rcases c1 with c1|c1
     · simp [c1]
     · simp [c1]
   · rw[if_neg c1]
     have q1:AV.aC bs=true:=by cases q:AV.aC bs with|true=>rfl|false=>exact absurd (.inl q) c1
     have q2:0<n:=by omega
     simp [q1,q2]
theorem xK {b n:Nat} (h:1≤b∧(n+n/4+512)* b≤281474976710656):roomy b n=true:=by simp only[roomy,h.1,h.2,and_self,decide_true]
theorem Ia {h:H} {n p o k:Nat} {m:Int} {cs:List AV} (hg:h.get p=some cs) (hn:0<n) (hk:o+k* n≤cs.length) (hm:0≤m∧m.toNat≤(cs.length-o)/n):sQ h n (.aF p o k n) none (some (.int .i64 m)) none=some (.aF p o m.toNat n):=by
 have h1:k≤(cs.length-o)/n:=by rw[Nat.le_div_iff_mul_le hn];omega
 simp only[sQ,hn,and_self,if_true,hg,vu,aB]
 rw[if_pos ⟨by omega,h1⟩]
 have h3:km (.int .i64 m) ((cs.length-o)/n)=some m.toNat:=by
  simp only[km,n7,vu]
  rw[if_pos]
  omega
 simp [h3]
theorem Lu {α:Type} {C:α→List AV} {n:Nat} (hC:∀x,(C x).length=n):∀{l:List α} {i f:Nat} {x:α},l[i]?=some x→f<n→(l.flatMap C)[i* n+f]?=(C x)[f]?
 |[],i,f,x,h,_=>by simp at h
 | y :: l, 0, f, x, h, hf => by
   obtain rfl:y=x:=by simpa using h
   rw[VJ,Nat.zero_mul,vF,VQ (by rw[hC];exact hf)]
 | y :: l, i + 1, f, x, h, hf => by
   rw[VJ,VL (by rw[hC,vQ];omega),hC]
   rw[show(i+1)* n+f-n=i* n+f by rw[vQ];omega]
   exact Lu hC (by simpa using h) hf
theorem A4 {α:Type} {C:α→List AV} {n:Nat} (hC:∀x,(C x).length=n):∀l:List α,(l.flatMap C).length=l.length* n
 |[]=>by simp
 |y::l=>by rw[VJ,vV,hC,A4 hC l,Vy,vQ];omega
theorem Gf {α:Type} {C:α→List AV} {n:Nat} (hC:∀x,(C x).length=n):∀{l:List α} {i:Nat} {x:α},l[i]?=some x→((l.flatMap C).drop (i* n)).take n=C x
 |[],i,x,h=>by simp at h
 | y :: l, 0, x, h => by
   obtain rfl:y=x:=by simpa using h
   rw[VJ,Nat.zero_mul,VW,List.take_append_of_le_length (by rw[hC];omega),vP (by rw[hC];omega)]
 | y :: l, i + 1, x, h => by
   rw[VJ,List.drop_append,List.drop_of_length_le (by rw[hC,vQ];omega),Wd,hC,show(i+1)* n-n=i* n by rw[vQ];omega]
   exact Gf hC (by simpa using h)
def xR (n:Nat) (h:H) (v:AV) (k:Nat) (cs:List AV):Prop:=aS h n v=some (k,cs)∧cs.length=k* n∧∀s,v≠.str s
theorem Rd.T9 {h:H} {v:AV} {cs:List AV} (r:Rd h v cs):xR 1 h v cs.length cs:=⟨r.1,by omega,r.2⟩
theorem xR.len {n:Nat} {h:H} {v:AV} {k:Nat} {cs:List AV} (r:xR n h v k cs):jg false v=some (.int .i64 k):=by
 obtain⟨r,_,hs⟩:=r
 unfold aS at r
 split at r
 · obtain⟨h1,h2⟩:=vo (vm r);subst h1;rfl
 · exact absurd rfl (hs _)
 · split at r
   · simp only[vk]at r
     obtain⟨c,_,r⟩:=r
     split at r
     · obtain⟨h1,h2⟩:=vo (vm r);simp [jg,h1]
     · cases r
   · cases r
 · split at r
   · split at r
     · obtain⟨h1,h2⟩:=vo (vm r);simp [jg,h1]
     · cases r
   · cases r
 · cases r
theorem xR.mono {n:Nat} {h g:H} {v:AV} {k:Nat} {cs:List AV} (r:xR n h v k cs) (hg:∀id c,h.get id=some c→g.get id=some c):xR n g v k cs:=by
 obtain⟨r,hl,hs⟩:=r
 refine⟨?_,hl,hs⟩
 unfold aS at r ⊢
 split at r
 · exact r
 · exact r
 · split at r
   · rename_i q;simp only[if_pos q,vk]at r ⊢
     obtain⟨c,h1,r⟩:=r
     exact⟨c,hg _ _ h1,r⟩
   · cases r
 · exact r
 · cases r
theorem xR.at_ {n : Nat} {h : H} {v : AV} {k : Nat} {cs : List AV} (r : xR n h v k cs) : ∃ ad : Int → Nat → AV,
 (∀i:Int,0≤i∧i<k→fP n v (.int .i64 i)=some (ad i 0))∧
 (∀(i:Int) (f g:Nat),0≤i∧i<k→fj g (ad i f)=some (ad i (f+g)))∧
 (∀(i:Int) (f:Nat) (g:H),0≤i∧i<k→jD g (ad i f)=some (ad i f,g))∧
 (∀g:H,(∀id c,h.get id=some c→g.get id=some c)→(∀(i:Int) (f:Nat) (c:AV),0≤i∧i<k→cs[i.toNat* n+f]?=some c→bP false 1 (ad i f) g=some c)∧
   ∀i:Int,0≤i∧i<k→bP true n (ad i 0) g=some (.agg ((cs.drop (i.toNat* n)).take n))):=by
 obtain⟨r,hl,hs⟩:=r
 unfold aS at r
 split at r
 · obtain⟨h1,h2⟩:=vo (vm r);subst h1
   exact⟨fun _ _=>.bot,fun i hi=>by omega,fun i f g hi=>by omega,fun i f g hi=>by omega,fun g _=>⟨fun i f c hi=>by omega,fun i hi=>by omega⟩⟩
 · exact absurd rfl (hs _)
 · rename_i id off len s
   split at r
   · rename_i q
     subst q
     simp only[vk]at r
     obtain⟨d,hd,r⟩:=r
     split at r
     · rename_i hle
       obtain⟨h1,h2⟩:=vo (vm r)
       subst h1
       have bnd:∀i:Int,0≤i∧i<len→i.toNat* s+s≤len* s:=fun i hi=>by
        have:=vD s (show i.toNat+1≤len by omega);rw[vQ]at this;omega
       refine⟨fun i f=>.aE id (off+i.toNat* s+f),fun i hi=>by simp [fP,QO hi],fun i f g _=>by simp [fj];omega,fun i f g _=>rfl,fun g hg=>⟨fun i f c hi hc=> ?_,fun i hi=> ?_⟩⟩
       · simp only[bP,hg _ _ hd,vu,gP,vw,vS]
         rw[←h2,vU]at hc
         split at hc
         · rw[vL]at hc;rw[vz];exact hc
         · cases hc
       · have:=bnd i hi
         simp only[bP,hg _ _ hd,vu,gP,if_true,Nat.add_zero]
         rw[if_pos (by omega),←h2,List.drop_take,List.take_take,List.drop_drop,Nat.min_eq_left (by omega)]
     · cases r
   · cases r
 · rename_i t cells off len s
   split at r
   · rename_i q
     subst q
     split at r
     · rename_i hle
       obtain⟨h1,h2⟩:=vo (vm r)
       subst h1
       have bnd:∀i:Int,0≤i∧i<len→i.toNat* s+s≤len* s:=fun i hi=>by
        have:=vD s (show i.toNat+1≤len by omega);rw[vQ]at this;omega
       refine⟨fun i f=>.aK cells (off+i.toNat* s+f),fun i hi=>by simp [fP,QO hi],fun i f g _=>by simp [fj];omega,fun i f g _=>rfl,fun g hg=>⟨fun i f c hi hc=> ?_,fun i hi=> ?_⟩⟩
       · simp only[bP,gP,vw,vS]
         rw[←h2,vU]at hc
         split at hc
         · rw[vL]at hc;rw[vz];exact hc
         · cases hc
       · have:=bnd i hi
         simp only[bP,gP,if_true,Nat.add_zero]
         rw[if_pos (by omega),←h2,List.drop_take,List.take_take,List.drop_drop,Nat.min_eq_left (by omega)]
     · cases r
   · cases r
 · cases r
def wM (n:Nat) (h:H) (v:AV) (k:Nat) (cs:List AV):Prop:=cs.length=k* n∧((v=.aP∧k=0)∨∃id,v=.aF id 0 k n∧h.get id=some cs∧h.floor≤id∧0<k)
theorem wM.nil {n:Nat} {h:H}:wM n h .aP 0 []:=⟨by simp,.inl ⟨rfl,rfl⟩⟩
theorem wM.mono {n:Nat} {h g:H} {v:AV} {k:Nat} {cs:List AV} (o:wM n h v k cs) (hf:g.floor=h.floor) (hg:∀i,v.id?=some i→g.get i=h.get i):wM n g v k cs:=by
 obtain⟨l,o⟩:=o
 refine⟨l, ?_⟩
 rcases o with o|⟨id,rfl,h1,h2,h3⟩
 · exact .inl o
 · exact .inr ⟨id,rfl,by rw[hg id rfl];exact h1,by rw[hf];exact h2,h3⟩
theorem wM.sc {n:Nat} {h:H} {v:AV} {k:Nat} {cs:List AV} (o:wM n h v k cs):v.sc=true:=by
 rcases o.2 with ⟨rfl,_⟩|⟨id,rfl,_⟩<;>rfl
theorem wM.lt {n:Nat} {h:H} {v:AV} {k:Nat} {cs:List AV} (o:wM n h v k cs) {i:Nat} (hi:v.id?=some i):h.floor≤i∧i<h.next:=by
 rcases o.2 with ⟨rfl,_⟩|⟨id,rfl,h1,h2⟩
 · cases hi
 · obtain rfl:=vm hi;exact⟨h2.1,h.lt _ _ h1⟩
theorem wM.rd {n:Nat} {h:H} {v:AV} {k:Nat} {cs:List AV} (o:wM n h v k cs):xR n h v k cs:=by
 obtain⟨l,o⟩:=o
 rcases o with ⟨rfl,rfl⟩|⟨id,rfl,h1,h2⟩
 · have:cs=[]:=V3 (by omega)
   subst this
   exact⟨rfl,by simp,fun _=>by simp⟩
 · refine⟨?_,l,fun _=>by simp⟩
   simp only[aS,if_true,h1,vu,vF]
   rw[if_pos (by omega),VW,vP (by omega)]
theorem wM.app {n:Nat} {h:H} {v:AV} {k:Nat} {cs:List AV} (o:wM n h v k cs) (hfn:h.floor≤h.next) {z m:Nat} (hm:0<m) (hn:0<n) (bs:List AV) (hb:bs.length=m* n) (hc:AV.aC bs=true) (hr:roomy z (k+m)=true):
 ∃v' h',dM h n z v m bs=some (v',h')∧wM n h' v' (k+m) (cs++bs)∧h'.floor=h.floor∧h.next≤h'.next∧(∀i,v.id?≠some i→i≠h.next→h'.get i=h.get i)∧v'.id?=some h.next:=by
 obtain⟨hl,o⟩:=o
 have hll:(cs++bs).length=(k+m)* n:=by rw[vV,hl,hb,vQ]
 rcases o with ⟨rfl,rfl⟩|⟨id,rfl,hg,hf,_⟩
 · have:cs=[]:=V3 (by omega)
   subst this
   refine⟨.aF h.next 0 m n,h.alloc bs, ?_,⟨hll,.inr ⟨h.next,by simp,by simp [H.aW],by simp;omega,by omega⟩⟩,by simp,by simp,fun i _ hi=>by rw[H.aW,if_neg hi],rfl⟩
   unfold dM
   rw[if_neg (by omega),if_neg (by simp [hc];omega)]
   rw[vF]at hr
   simp only[hr,if_true]
 · have hmn:0<m* n:=Nat.mul_pos hm hn
   have hnot:¬0+(k+m)* n≤cs.length:=by rw[hl,vQ];omega
   refine⟨.aF h.next 0 (k+m) n,(h.del id).alloc (cs++bs), ?_,⟨hll,.inr ⟨h.next,by simp,by simp [H.aW], ?_,by omega⟩⟩,by simp,by simp,fun i h1 h2=> ?_,rfl⟩
   · unfold dM
     rw[if_neg (by omega),if_neg (by simp [hc];omega)]
     simp only[hf,and_self,if_true,hg,vu]
     rw[if_neg hnot,if_pos ⟨by omega,hr⟩]
     simp
   · have:=h.lt id cs hg;simp;omega
   · rw[H.aW,H.jB,if_neg h2,H.dU,if_neg]
     intro e;subst e;exact h1 rfl
theorem wM.push {n:Nat} {h:H} {v:AV} {k:Nat} {cs:List AV} (o:wM n h v k cs) (hfn:h.floor≤h.next) {z m:Nat} (hm:0<m) (hn:0<n) (bs:List AV) (hb:bs.length=m* n) (hc:AV.aC bs=true) (hr:roomy z (k+m)=true):
 ∃v' h',kS (h.alloc bs) n z v (.aF h.next 0 m n)=some (v',h')∧wM n h' v' (k+m) (cs++bs)∧h'.floor=h.floor∧h.next+1≤h'.next∧(∀i,v.id?≠some i→i<h.next→h'.get i=h.get i)∧v'.id?=some (h.next+1):=by
 have o1:wM n (h.alloc bs) v k cs:=o.mono (by simp) fun i q=>by rw[H.aW,if_neg];have:=o.lt q;omega
 obtain⟨v',h',p1,p2,p3,p4,p5,p6⟩:=o1.app (z:=z) (by simp;omega) hm hn bs hb hc hr
 refine⟨v',h', ?_,p2,by rw[p3];simp,by simpa using p4,fun i q1 q2=> ?_,by simpa using p6⟩
 · have src:aS (h.alloc bs) n (.aF h.next 0 m n)=some (m,bs):=by
    simp only[aS,if_true,H.aW,vu,vF]
    rw[if_pos (by omega),VW,vP (by omega)]
   unfold kS;rw[src,vu];exact p1
 · rw[p5 i q1 (by simp;omega),H.aW,if_neg (by omega)]
def yx (n k:Nat) (cs:List AV):AV:=if k=0 then .aP else .aV false cs 0 k n
theorem GG {n k:Nat} {h:H} {cs:List AV} (hl:cs.length=k* n):xR n h (yx n k cs) k cs:=by
 unfold yx
 by_cases hk:k=0
 · subst hk
   have:cs=[]:=V3 (by omega)
   subst this
   exact⟨rfl,by simp,fun _=>by simp⟩
 · rw[if_neg hk]
   refine⟨?_,hl,fun _=>by simp⟩
   simp only[aS,if_true,vF]
   rw[if_pos (by omega),VW,vP (by omega)]
theorem wM.yj {n:Nat} {h:H} {v:AV} {k:Nat} {l:List Int} {fl m:Nat} {t:Bool} (o:wM n h v k (ints l)) (hf:fl≤h.floor):snap h.get fl (m+2) t v=some (yx n k (ints l)):=by
 obtain⟨hl,o⟩:=o
 rw[qg]at hl
 rcases o with ⟨rfl,rfl⟩|⟨id,rfl,q,h2,hk⟩
 · rfl
 · unfold snap
   rw[if_neg (by omega),q,vu,if_pos (by rw[qg];omega)]
   rw[VW,vP (by rw[qg];omega),yE]
   unfold yx
   rw[if_neg (by omega)];rfl
attribute [go_sem] List.map_cons List.map_nil Bool.and_true Bool.true_and Bool.and_self List.append_nil Option.map_some Option.map_none Bool.and_false Bool.false_and Bool.or_false Bool.or_true Bool.true_or Bool.false_or Bool.or_self bT.aO bT.aI Int.reduceAdd Int.reduceSub Int.reduceMul Int.reduceNeg Int.reduceToNat List.take_succ_cons List.take_zero List.drop_zero List.drop_succ_cons Int.cast_ofNat_Int Int.natCast_one Int.natCast_zero List.length_set
theorem wc:type_of% @dt∧type_of% @df∧type_of% @Ug∧type_of% @Uf∧type_of% @Uk∧type_of% @Uj∧type_of% @wi∧type_of% @wb∧type_of% @yd∧type_of% @Br∧type_of% @MF∧type_of% @I7∧type_of% @QO∧type_of% @wh∧type_of% @v8∧type_of% @wu∧type_of% @vX∧type_of% @H.jv∧type_of% @H.kg∧type_of% @H.lG∧type_of% @H.jC∧type_of% @JP∧type_of% @Jk∧type_of% @Lm∧type_of% @Ll∧type_of% @Ju∧type_of% @DT∧type_of% @E0∧type_of% @Jh∧type_of% @K0∧type_of% @Mh∧type_of% @Mi∧type_of% @qo∧type_of% @pO∧type_of% @sf∧type_of% @qA∧type_of% @LJ∧type_of% @LH∧type_of% @tE∧type_of% @tF∧type_of% @GZ∧type_of% @Gl∧type_of% @AN∧type_of% @F7∧type_of% @Iy∧type_of% @Jf∧type_of% @NL∧type_of% @Lz∧type_of% @N4∧type_of% @N3∧type_of% @N1∧type_of% @N0∧type_of% @N2∧type_of% @NY∧type_of% @F9∧type_of% @GU∧type_of% @GX∧type_of% @GV∧type_of% @EZ∧type_of% @DC∧type_of% @DR∧type_of% @GW∧type_of% @CC∧type_of% @Gs∧type_of% @LW∧type_of% @Gg∧type_of% @GA∧type_of% @Gz∧type_of% @NX∧type_of% @NW∧type_of% @uF∧type_of% @beq_refl∧type_of% @yh∧type_of% @NZ∧type_of% @NI∧type_of% @Mt∧type_of% @Ms∧type_of% @Mr∧type_of% @EF∧type_of% @Ib∧type_of% @Dx∧type_of% @FR:=⟨@dt, @df, @Ug, @Uf, @Uk, @Uj, @wi, @wb, @yd, @Br, @MF, @I7, @QO, @wh, @v8, @wu, @vX, @H.jv, @H.kg, @H.lG, @H.jC, @JP, @Jk, @Lm, @Ll, @Ju, @DT, @E0, @Jh, @K0, @Mh, @Mi, @qo, @pO, @sf, @qA, @LJ, @LH, @tE, @tF, @GZ, @Gl, @AN, @F7, @Iy, @Jf, @NL, @Lz, @N4, @N3, @N1, @N0, @N2, @NY, @F9, @GU, @GX, @GV, @EZ, @DC, @DR, @GW, @CC, @Gs, @LW, @Gg, @GA, @Gz, @NX, @NW, @uF, @beq_refl, @yh, @NZ, @NI, @Mt, @Ms, @Mr, @EF, @Ib, @Dx, @FR⟩
theorem zW:type_of% @Cz∧type_of% @Cq∧type_of% @Cp∧type_of% @Gm∧type_of% @Ge∧type_of% @yY∧type_of% @MN∧type_of% @Ml∧type_of% @Mk∧type_of% @Mq∧type_of% @NU∧type_of% @NS∧type_of% @NT∧type_of% @NV∧type_of% @KW∧type_of% @NH∧type_of% @ND∧type_of% @NG∧type_of% @NF∧type_of% @xK∧type_of% @xL∧type_of% @xO∧type_of% @MD∧type_of% @MC:=⟨@Cz, @Cq, @Cp, @Gm, @Ge, @yY, @MN, @Ml, @Mk, @Mq, @NU, @NS, @NT, @NV, @KW, @NH, @ND, @NG, @NF, @xK, @xL, @xO, @MD, @MC⟩
theorem wY:type_of% @H.kg∧type_of% @H.jC∧type_of% @Gm∧type_of% @Cz∧type_of% @H.jv∧type_of% @H.lG∧type_of% @Ge∧type_of% @Cp:=⟨@H.kg, @H.jC, @Gm, @Cz, @H.jv, @H.lG, @Ge, @Cp⟩
theorem zX:type_of% @wh∧type_of% @v8∧type_of% @wu∧type_of% @vX∧type_of% @yY∧type_of% @Cq:=⟨@wh, @v8, @wu, @vX, @yY, @Cq⟩
end Ab
set_option maxRecDepth 100000
namespace Ab
open Go
def O9 (c:Nat):Nat:=if c%2=1 then(c/2)^^^3988292384 else c/2
def Jn:Nat→Nat→Nat
 |0,c=>c
 |n+1,c=>Jn n (O9 c)
def MZ (c b:Nat):Nat:=Jn 8 (c^^^b)
def K9 (s:ByteArray):Nat→Nat→Nat→Nat
 |0,_,c=>c
 |n+1,i,c=>K9 s n (i+1) (MZ c (zg s i))
def Tc (a:Nat) (s:ByteArray):Nat:=4294967295-K9 s s.size 0 (4294967295-a)
def RW (s:ByteArray):Nat:=Tc 0 s
theorem CG {a s:Nat} (hs:s≤64):pP .shr .i64 (a:Int) (s:Int)=some (.int .i64 ((a/2^s:Nat):Int)):=by
 unfold pP
 rw[if_neg (by omega)]
 simp only[IntKind.bits,Wg,Nat.min_eq_left hs]
 rw[Int.fdiv_eq_ediv_of_nonneg _ (Int.pow_nonneg (by omega))]
 simp
theorem Cg {h:H} {v:AV} {k:Nat} {l:List Nat} (o:wM 1 h v k (yI l)):uD h v (aS h 1 v)=some (.str (bytesOf l),h):=by
 rw[o.rd.1]
 simp only[uD,vu,F8]
 rcases o.2 with ⟨rfl,_⟩|⟨id,rfl,_⟩<;>rfl
def zN (s:ByteArray) (i j:Nat):Nat→Nat→Nat
 |0,k=>k
 |f+1,k=>if k<258∧i+k<s.size∧zg s (i+k)=zg s (j+k)then zN s i j f (k+1)else k
def same (s:ByteArray) (i j:Nat):Nat:=zN s i j 258 0
def xf (s:ByteArray) (i:Nat):Nat→Nat×Nat→Nat×Nat
 |0,b=>b
 |j+1,b=>xf s i j (if b.1<same s i j then(same s i j,i-j)else b)
theorem H9 (s:ByteArray) (i j:Nat):∀f k,zN s i j f k≤k+f
 |0,k=>by simp [zN]
 | f + 1, k => by
   unfold zN
   split
   · have:=H9 s i j f (k+1);omega
   · omega
theorem JM (s:ByteArray) (i j:Nat):same s i j≤258:=by have:=H9 s i j 258 0;unfold same;omega
theorem EB (s:ByteArray) (i j:Nat) (hi:i≤s.size):∀f k,i+k≤s.size→i+zN s i j f k≤s.size
 |0,k,h=>by simpa [zN]using h
 | f + 1, k, h => by
   unfold zN
   split
   · rename_i q;exact EB s i j hi f (k+1) (by omega)
   · exact h
theorem FP (s:ByteArray) (i j:Nat) (hi:i≤s.size):i+same s i j≤s.size:=EB s i j hi 258 0 (by omega)
theorem DS (s:ByteArray) (i:Nat) (hi:i≤s.size):∀(j:Nat) (b:Nat×Nat),i+b.1≤s.size→i+(xf s i j b).1≤s.size
 |0,b,h=>h
 | j + 1, b, h => by
   unfold xf
   refine DS s i hi j _ ?_
   split
   · exact FP s i j hi
   · exact h
structure Tok where
 lit:Int
 len:Int
 wL:Int
deriving DecidableEq
def NA (t:Tok):List Int:=[t.lit,t.len,t.wL]
def Is (t:Tok):List AV:=ints (NA t)
def N5 (ts:List Tok):List Int:=ts.flatMap NA
def wG (ts:List Tok):List AV:=ts.flatMap Is
theorem EK (t:Tok):(Is t).length=3:=rfl
theorem yk (ts:List Tok):(wG ts).length=ts.length* 3:=A4 EK ts
theorem AH:∀ts:List Tok,wG ts=ints (N5 ts)
 |[]=>rfl
 | t :: ts => by
   have:=AH ts
   unfold wG N5 at *
   rw[VJ,VJ,qf,this];rfl
theorem Jb (ts:List Tok) (t:Tok):wG (ts++[t])=wG ts++Is t:=by simp [wG]
def xQ (s:ByteArray) (i:Nat):Tok×Nat:=
 if(xf s i i (0,0)).1<3 then(⟨zg s i,0,0⟩,i+1)else(⟨0,(xf s i i (0,0)).1,(xf s i i (0,0)).2⟩,i+(xf s i i (0,0)).1)
def Bj (s:ByteArray):Nat→Nat→List Tok
 |0,_=>[]
 |f+1,i=>if i<s.size then(xQ s i).1::Bj s f (xQ s i).2 else []
theorem Iq (s:ByteArray) (i:Nat):i<(xQ s i).2:=by
 unfold xQ;split<;>simp<;>omega
theorem Ip (s:ByteArray) (i:Nat) (hi:i<s.size):(xQ s i).2≤s.size:=by
 unfold xQ;split
 · exact hi
 · exact DS s i (by omega) i (0,0) (by show i+0≤_;omega)
def EM (ts:List Tok):AV:=yx 3 ts.length (wG ts)
def tokens (s:ByteArray):List Tok:=Bj s s.size 0
def Ext (h g:H):Prop:=∀id c,h.get id=some c→g.get id=some c
theorem Ext.refl (h:H):Ext h h:=fun _ _ q=>q
theorem Ext.trans {a b c:H} (x:Ext a b) (y:Ext b c):Ext a c:=fun i d q=>y i d (x i d q)
theorem Ext.alloc {a h:H} (x:Ext a h) (cs:List AV):Ext a (h.alloc cs):=fun i d q=>by
 have:=h.lt _ _ (x i d q)
 rw[H.aW,if_neg (by omega)];exact x i d q
theorem Ext.set {a h:H} (x:Ext a h) {id:Nat} (hid:a.next≤id) (cs:List AV):Ext a (h.set id cs):=fun i d q=>by
 have:=a.lt _ _ q
 rw[H.dw,if_neg (by omega)];exact x i d q
theorem xR.DA {h:H} {v:AV} {ts:List Tok} (r:xR 3 h v ts.length (wG ts)):∃ad:Int→Nat→AV,
 (∀i:Int,0≤i∧i<ts.length→fP 3 v (.int .i64 i)=some (ad i 0))∧
 (∀(i:Int) (f g:Nat),0≤i∧i<ts.length→fj g (ad i f)=some (ad i (f+g)))∧
 ∀ g : H, Ext h g → ∀ (i : Nat) (t : Tok), ts[i]? = some t → bP false 1 (ad i 0) g = some (.int .i64 t.lit) ∧ bP false 1 (ad i 1) g = some (.int .i64 t.len) ∧ bP false 1 (ad i 2) g = some (.int .i64 t.wL) ∧
   bP true 3 (ad i 0) g=some (.agg [.int .i64 t.lit,.int .i64 t.len,.int .i64 t.wL]):=by
 obtain⟨ad,a1,a2,_,a3⟩:=r.at_
 refine⟨ad,a1,a2,fun g hg i t ht=> ?_⟩
 obtain⟨b1,b2⟩:=a3 g hg
 have hi:i<ts.length:=(vt.1 ht).1
 have hI:(0:Int)≤(i:Int)∧(i:Int)<ts.length:=⟨by omega,by omega⟩
 have ti:((i:Int)).toNat=i:=by omega
 have q:∀f,f<3→(wG ts)[((i:Int)).toNat* 3+f]?=(Is t)[f]?:=fun f hf=>by rw[ti];exact Lu EK ht hf
 refine⟨b1 i 0 _ hI (q 0 (by omega)),b1 i 1 _ hI (q 1 (by omega)),b1 i 2 _ hI (q 2 (by omega)), ?_⟩
 rw[b2 i hI,ti,wG,Gf EK ht];rfl
def wW (size:Int) (t:Tok):Option Int:=
 if t.len=0 then(if t.lit<0∨255<t.lit∨t.wL≠0 then none else some (size+1))
 else if t.len<3∨258<t.len∨t.wL<1∨32768<t.wL∨size<t.wL∨t.lit≠0 then none else some (size+t.len)
def wF : Int → List Tok → Bool
 |_,[]=>true
 | s, t :: r => match wW s t with
   |none=>false
   |some s'=>if 8192<s' then false else wF s' r
theorem ME {v a0:AV} {n i:Nat} {s:Int} {t:Tok} {h h1:H} (hi:i<n) (hfl:h.floor≤h.next) (ln:jg false v=some (.int .i64 n)) (b1:fP 3 v (.int .i64 i)=some a0) (b2:bP true 3 a0 h=some (.agg [.int .i64 t.lit,.int .i64 t.len,.int .i64 t.wL]))
 (eh1:h1=(h.alloc [.int .i64 0,.int .i64 0,.int .i64 0]).set h.next [.int .i64 t.lit,.int .i64 t.len,.int .i64 t.wL]) (g1:h1.get h.next=some [.int .i64 t.lit,.int .i64 t.len,.int .i64 t.wL]) (hb:wW s t=none):
 aL (aR AP.A) bp AP.f69L0 (ay [(0,v),(3,.int .i64 s),(4,.int .i64 i)] [0,3,4]) h=some (.ret,[(2,.bool false)],h1):=by
 unfold wW at hb
 by_cases c0:t.len=0
 · rw[if_pos c0]at hb
   have hb':t.lit<0∨255<t.lit∨t.wL≠0:=by
    by_cases c:t.lit<0∨255<t.lit∨t.wL≠0
    · exact c
    · rw[if_neg c]at hb;cases hb
   by_cases d1:t.lit<0
   · clear hb' hb;simp (disch:=omega)only[go_sem,wc,AP.f69L0,ln,b1,b2,←eh1,g1]
   by_cases d2:255<t.lit
   · clear hb' hb;simp (disch:=omega)only[go_sem,wc,AP.f69L0,ln,b1,b2,←eh1,g1]
   have d3:¬t.wL=0:=by omega
   clear hb' hb
   simp (disch:=omega)only[go_sem,wc,AP.f69L0,ln,b1,b2,←eh1,g1]
 · rw[if_neg c0]at hb
   have hb':t.len<3∨258<t.len∨t.wL<1∨32768<t.wL∨s<t.wL∨t.lit≠0:=by
    by_cases c:t.len<3∨258<t.len∨t.wL<1∨32768<t.wL∨s<t.wL∨t.lit≠0
    · exact c
    · rw[if_neg c]at hb;cases hb
   by_cases d1:t.len<3
   · clear hb' hb;simp (disch:=omega)only[go_sem,wc,AP.f69L0,ln,b1,b2,←eh1,g1]
   by_cases d2:258<t.len
   · clear hb' hb;simp (disch:=omega)only[go_sem,wc,AP.f69L0,ln,b1,b2,←eh1,g1]
   by_cases d3:t.wL<1
   · clear hb' hb;simp (disch:=omega)only[go_sem,wc,AP.f69L0,ln,b1,b2,←eh1,g1]
   by_cases d4:32768<t.wL
   · clear hb' hb;simp (disch:=omega)only[go_sem,wc,AP.f69L0,ln,b1,b2,←eh1,g1]
   by_cases d5:s<t.wL
   · clear hb' hb;simp (disch:=omega)only[go_sem,wc,AP.f69L0,ln,b1,b2,←eh1,g1]
   have d6:¬t.lit=0:=by omega
   clear hb' hb
   simp (disch:=omega)only[go_sem,wc,AP.f69L0,ln,b1,b2,←eh1,g1]
theorem KN {v a0:AV} {n i:Nat} {s s':Int} {t:Tok} {h h1:H} (hi:i<n) (hn:n<1125899906842624) (hs:0≤s∧s≤8192) (hfl:h.floor≤h.next) (ln:jg false v=some (.int .i64 n)) (b1:fP 3 v (.int .i64 i)=some a0) (b2:bP true 3 a0 h=some (.agg [.int .i64 t.lit,.int .i64 t.len,.int .i64 t.wL]))
 (eh1:h1=(h.alloc [.int .i64 0,.int .i64 0,.int .i64 0]).set h.next [.int .i64 t.lit,.int .i64 t.len,.int .i64 t.wL]) (g1:h1.get h.next=some [.int .i64 t.lit,.int .i64 t.len,.int .i64 t.wL]) (hst:wW s t=some s'):
 aL (aR AP.A) bp AP.f69L0 (ay [(0,v),(3,.int .i64 s),(4,.int .i64 i)] [0,3,4]) h=if 8192<s' then some (.ret,[(2,.bool false)],h1)else some (.normal,[(0,v),(3,.int .i64 s'),(4,.int .i64 ((i:Int)+1))],h1):=by
 unfold wW at hst
 by_cases c0:t.len=0
 · rw[if_pos c0]at hst
   by_cases c:t.lit<0∨255<t.lit∨t.wL≠0
   · rw[if_pos c]at hst;cases hst
   rw[if_neg c]at hst
   obtain rfl:=vm hst
   have k1:¬t.lit<0:=by omega
   have k2:¬255<t.lit:=by omega
   have k3:t.wL=0:=by omega
   clear c
   by_cases k:8192<s+1
   · rw[if_pos k]
     simp (disch:=omega)only[go_sem,wc,AP.f69L0,ln,b1,b2,←eh1,g1]
   · rw[if_neg k]
     simp (disch:=omega)only[go_sem,wc,AP.f69L0,ln,b1,b2,←eh1,g1]
 · rw[if_neg c0]at hst
   by_cases c:t.len<3∨258<t.len∨t.wL<1∨32768<t.wL∨s<t.wL∨t.lit≠0
   · rw[if_pos c]at hst;cases hst
   rw[if_neg c]at hst
   obtain rfl:=vm hst
   have k1:¬t.len<3:=by omega
   have k2:¬258<t.len:=by omega
   have k3:¬t.wL<1:=by omega
   have k4:¬32768<t.wL:=by omega
   have k5:¬s<t.wL:=by omega
   have k6:t.lit=0:=by omega
   clear c
   by_cases k:8192<s+t.len
   · rw[if_pos k]
     simp (disch:=omega)only[go_sem,wc,AP.f69L0,ln,b1,b2,←eh1,g1]
   · rw[if_neg k]
     simp (disch:=omega)only[go_sem,wc,AP.f69L0,ln,b1,b2,←eh1,g1]
theorem FW {v : AV} {ts : List Tok} (hn : ts.length < 1125899906842624) (h0 : H) (rd : xR 3 h0 v ts.length (wG ts)) : ∀ (q p : List Tok) (s : Int) (h : H), ts = p ++ q → 0 ≤ s ∧ s ≤ 8192 → Ext h0 h → h0.next ≤ h.next → h.floor ≤ h.next →
 (∃e' h',Lp AP.A [0,3,4] AP.f69L0 [(0,v),(3,.int .i64 s),(4,.int .i64 p.length)] h=some (.exit 0,e',h')∧wF s q=true)∨
 (∃e' h',Lp AP.A [0,3,4] AP.f69L0 [(0,v),(3,.int .i64 s),(4,.int .i64 p.length)] h=some (.ret,e',h')∧look e' 2=.bool false∧wF s q=false)
 | [], p, s, h, hp, hs, hx, hnx, hfl => by
   left
   have ln:=rd.len
   rw[VM]at hp;subst hp
   refine⟨[(0,v),(3,.int .i64 s),(4,.int .i64 ts.length),(9,.bool false)],h,tW ?_,rfl⟩
   simp (disch:=omega)only[go_sem,wc,AP.f69L0,ln]
 | t :: q, p, s, h, hp, hs, hx, hnx, hfl => by
   have ln:=rd.len
   have hlen:ts.length=p.length+(q.length+1):=by rw[hp];simp
   have ht:ts[p.length]?=some t:=by rw[hp];simp
   obtain⟨ad,a1,a2,a3⟩:=rd.DA
   have hI:(0:Int)≤(p.length:Int)∧(p.length:Int)<ts.length:=⟨by omega,by omega⟩
   have b1:=a1 _ hI
   obtain⟨_,_,_,b2⟩:=a3 h hx _ _ ht
   obtain⟨h1,eh1⟩:∃g,g=(h.alloc [.int .i64 0,.int .i64 0,.int .i64 0]).set h.next [.int .i64 t.lit,.int .i64 t.len,.int .i64 t.wL]:=⟨_,rfl⟩
   have w1:((p.length:Int)+1)=(((p++[t]).length:Nat):Int):=by simp
   have b2':=b2
   have gA:(h.alloc [.int .i64 0,.int .i64 0,.int .i64 0]).get h.next=some [.int .i64 0,.int .i64 0,.int .i64 0]:=wh rfl
   have ldA:bP true 3 (ad p.length 0) (h.alloc [.int .i64 0,.int .i64 0,.int .i64 0])=some (.agg [.int .i64 t.lit,.int .i64 t.len,.int .i64 t.wL]):=(a3 _ (hx.alloc _) _ _ ht).2.2.2
   have g1:h1.get h.next=some [.int .i64 t.lit,.int .i64 t.len,.int .i64 t.wL]:=by rw[eh1,wu rfl,gA];rfl
   have hx1:Ext h0 h1:=by rw[eh1];exact(hx.alloc _).set hnx _
   have hn1:h0.next≤h1.next:=by rw[eh1];simp;omega
   have hf1:h1.floor≤h1.next:=by rw[eh1];simp;omega
   cases hst:wW s t with
   | none =>
     right
     exact⟨_,h1,uz (ME (by omega) hfl ln b1 b2 eh1 g1 hst),rfl,by simp [wF,hst]⟩
   | some s' =>
     have good:=KN (by omega) hn hs hfl ln b1 b2 eh1 g1 hst
     have hs':0≤s':=by
      unfold wW at hst
      clear good
      by_cases c0:t.len=0
      · rw[if_pos c0]at hst
        split at hst
        · cases hst
        · obtain rfl:=vm hst;omega
      · rw[if_neg c0]at hst
        split at hst
        · cases hst
        · obtain rfl:=vm hst;omega
     by_cases k:8192<s'
     · right
       rw[if_pos k]at good
       exact⟨_,h1,uz good,rfl,by simp [wF,hst,k]⟩
     · rw[if_neg k]at good
       have e:wF s (t::q)=wF s' q:=by simp [wF,hst,k]
       rw[e]
       rw[w1]at good
       rcases FW hn h0 rd q (p++[t]) s' h1 (by rw[hp];simp) ⟨hs',by omega⟩ hx1 hn1 hf1 with ⟨e',h',r1,r2⟩|⟨e',h',r1,r2,r3⟩
       · exact .inl ⟨e',h',tX good r1,r2⟩
       · exact .inr ⟨e',h',tX good r1,r2,r3⟩
theorem Rd.xj {h:H} {v:AV} {l:List Int} (r:Rd h v (ints l)):∃ad:Int→AV,(∀i:Int,0≤i∧i<l.length→fP 1 v (.int .i64 i)=some (ad i))∧
 ∀g:H,Ext h g→∀(i:Nat) (n:Int),l[i]?=some n→bP false 1 (ad i) g=some (.int .i64 n):=by
 have r2:=r.T9
 rw[qg]at r2
 obtain⟨ad,a1,_,_,a3⟩:=r2.at_
 refine⟨fun i=>ad i 0,a1,fun g hg i n hn=> ?_⟩
 have hi:i<l.length:=(vt.1 hn).1
 refine(a3 g hg).1 i 0 _ ⟨by omega,by omega⟩ ?_
 rw[I7,Nat.mul_one,Nat.add_zero]
 exact tG hn
structure QK where
 name:ByteArray
 gone:Bool
 vec:List Int
 Mu:Int
 node:Int
 method:Int
 packed:ByteArray
 size:Int
 UO:Int
structure PE (h:H) (p:AV) (cs:List AV):Prop where
 nil:∀g:H,jD g p=some (p,g)
 uc:∃q:Nat→AV,(∀k,fj k p=some (q k))∧∀g:H,Ext h g→∀(k:Nat) (c:AV),cs[k]?=some c→bP false 1 (q k) g=some c
abbrev QL:=QK×AV
structure Tp (h:H) (x:QL):Prop where
 vec:Rd h x.2 (ints x.1.vec)
 vl:x.1.vec.length<1125899906842624
 nl:x.1.name.size<1125899906842624
 pl:x.1.packed.size<1125899906842624
theorem Tp.mono {h g:H} {x:QL} (o:Tp h x) (e:Ext h g):Tp g x:=⟨o.vec.mono fun i c q=>e i c q,o.vl,o.nl,o.pl⟩
theorem Gq (c:ah) (e:Env) (h:H) (x y:X):ai c e h (.mx [x,y])=dg h (mM (x.ev e) (y.ev e)):=by
 simp only[ai,aX,VK,Wk,gv]
 cases mM (x.ev e) (y.ev e)<;>rfl
def CW (a b:Int):Int:=if a<b then b else a
theorem DB (k:IntKind) (a b:Int):mM (.int k a) (.int k b)=some (.int k (CW a b)):=rfl
theorem Rd.T7 {h:H} {v:AV} {cs:List AV} (r:Rd h v cs) (hc:cs≠[]):fE 1 v .aP=some false:=by
 obtain⟨r,hs⟩:=r
 unfold aS at r
 split at r
 · obtain⟨_,h2⟩:=vo (vm r);exact absurd h2.symm hc
 · exact absurd rfl (hs _)
 · rfl
 · rfl
 · cases r
theorem EY {n:Nat} {h:H} {v:AV} {k:Nat} {cs:List AV} (r:xR n h v k cs) (hfn:h.floor≤h.next) (hn:0<n) (hk:0<k) {z:Nat} (hr:roomy z k=true) (hc:AV.aC cs=true):
 kS (h.alloc []) n z (.aF h.next 0 0 n) v=some (.aF (h.next+1) 0 k n,((h.alloc []).del h.next).alloc cs):=by
 have r2:xR n (h.alloc []) v k cs:=r.mono fun i c q=>by rw[H.aW,if_neg (by have:=h.lt _ _ q;omega)];exact q
 unfold kS
 rw[r2.1,vu]
 have hkn:0<k* n:=Nat.mul_pos hk hn
 unfold dM
 rw[if_neg (by omega),if_neg (by simp [hc];omega)]
 simp only[H.jv,hfn,and_self,if_true]
 rw[wh rfl,vu,if_neg (by simp;omega),if_pos ⟨by simp,by simpa using hr⟩]
 simp
theorem BR:∀l:List Int,AV.aC (ints l)=true
 |[]=>rfl
 | n :: l => by
   have:=BR l
   show AV.aC (I n::ints l)=true
   rw[qA,this];rfl
theorem MY (h:H) (v:AV) (l:List Int) (rd:Rd h v (ints l)) (hl:0<l.length) (hb:l.length<1000000) (hfn:h.floor≤h.next):aR AP.A 118 [v] h=some (.aF (h.next+1) 0 l.length 1,((h.alloc []).del h.next).alloc (ints l)):=by
 have r2:=rd.T9
 rw[qg]at r2
 have ap:=EY r2 hfn (by omega) hl (z:=8) (by simp [roomy];omega) (BR l)
 have nn:=rd.T7 (fun q=>by
  have q2:(ints l).length=0:=by rw[q];rfl
  rw[qg]at q2
  omega)
 refine um (fn:=AP.f118) (h2:=((h.alloc []).del h.next).alloc (ints l)) (e:=[(2,.aF (h.next+1) 0 l.length 1)]) (vs:=[.aF (h.next+1) 0 l.length 1]) rfl rfl rfl ?_ rfl
 clear rd r2
 simp (disch:=omega)only[go_sem,wc,AP.f118,nn,ap]
def Mo (name:ByteArray) (node:Nat) (Mu:Int) (text:ByteArray):QK:=⟨name,false,[0,0,0,0].set node Mu,Mu,node,0,text,text.size,RW text⟩
def nA:ByteArray:=⟨#[97]⟩
def Ul:ByteArray:=⟨#[104,105]⟩
def U4:ByteArray:=⟨#[104,111]⟩
def eA:QK:=Mo nA 0 1 Ul
def eB:QK:=Mo nA 2 1 U4
def eD:QK:={eA with UO:=(RW Ul^^^1:Nat)}
def Ni:Ty:=.int .i64
def QD:Ty:=.str
theorem I4 {B:Nat} {avs:List AV} (h:Sh B Ni avs):∃n,avs=[.int .i64 n]∧(-9223372036854775808≤n∧n<9223372036854775808):=by
 cases h with
 |int h=>exact⟨_,rfl,uh h⟩
theorem Qz {avs:List AV} (h:Sh reachBytes .str avs):∃s:ByteArray,avs=[.str s]∧s.size<140737488355328:=by
 cases h with
 |str h=>exact⟨_,rfl,uO h⟩
theorem EE {B:Nat} {f:Ty} {fs:List Ty} {avs:List AV} (h:jc B (f::fs) avs):∃a r,avs=a++r∧Sh B f a∧jc B fs r:=by
 cases h with
 |cons h hr=>exact⟨_,_,rfl,h,hr⟩
theorem Nw {B:Nat} {avs:List AV} (h:jc B [] avs):avs=[]:=by
 cases h;rfl
theorem Tj {B:Nat} {fs:List Ty} {avs:List AV} (h:Sh B (.st fs) avs):jc B fs avs:=by
 cases h with
 |st h=>exact h
theorem Ua {P:Ty×List AV→Prop} {a b:Ty} {r:List (Ty×List AV)} (h:r.map (·.1)=[a,b]) (hp:∀x∈r,P x):∃x y,r=[(a,x),(b,y)]∧P (a,x)∧P (b,y):=by
 match r,h with
 |[(a',x),(b',y)],h=>simp at h;obtain⟨rfl,rfl⟩:=h;exact⟨x,y,rfl,hp _ (by simp),hp _ (by simp)⟩
def Tm:Ty:=.st [Ni,Ni,Ni]
def JV:Ty:=.sl Tm 3 24
theorem Nx {B:Nat} {ess:List (List AV)} (h:∀es,es∈ess→Sh B Tm es):∃l:List Tok,l.length=ess.length∧ess.flatten=wG l:=by
 induction ess with
 |nil=>exact⟨[],rfl,rfl⟩
 | cons y ess ih =>
   obtain⟨l,h1,h2⟩:=ih fun es q=>h es (by simp [q])
   obtain⟨a1,r1,rfl,s1,h3⟩:=EE (Tj (h y (by simp)))
   obtain⟨a2,r2,rfl,s2,h4⟩:=EE h3
   obtain⟨a3,r3,rfl,s3,h5⟩:=EE h4
   obtain rfl:=Nw h5
   obtain⟨a,rfl,_⟩:=I4 s1
   obtain⟨b,rfl,_⟩:=I4 s2
   obtain⟨c,rfl,_⟩:=I4 s3
   exact⟨⟨a,b,c⟩::l,by simp [h1],by rw[List.flatten_cons,h2];rfl⟩
theorem Ny {avs:List AV} (h:Sh reachBytes JV avs):∃(v:AV) (l:List Tok),avs=[v]∧v.sc=true∧(∀g,xR 3 g v l.length (wG l))∧l.length<9000000000000:=by
 cases h with
 |aP=>exact⟨.aP,[],rfl,rfl,fun g=>⟨rfl,rfl,fun s q=>(by cases q)⟩,by simp⟩
 | aV ess h hz hb =>
   obtain⟨l,h1,h2⟩:=Nx h
   refine⟨_,l,rfl,rfl,fun g=> ?_, ?_⟩
   · rw[h2,←h1]
     refine⟨?_,by rw[yk],fun s q=>by cases q⟩
     simp only[aS,if_true,vF]
     rw[if_pos (by rw[yk];exact vB _),VW,vP (by rw[yk];exact vB _)]
   · rw[h1];unfold reachBytes at hb;omega
def QH (s:ByteArray):List Nat:=s.data.toList.map (·.toNat)
theorem JU (s:ByteArray):(QH s).length=s.size:=by unfold QH;rw[Wc,Array.length_toList];rfl
theorem QI (s:ByteArray):∀b∈QH s,b<256:=by
 intro b hb
 obtain⟨x,_,rfl⟩:=VN.1 hb
 exact x.toNat_lt
theorem Df (s:ByteArray):bytesOf (QH s)=s:=by
 unfold QH bytesOf;rw[List.map_map];apply ByteArray.ext;simp [Function.comp_def]
structure Bu (h:H) (A:Nat) (C:Nat→AV) (ls:Nat→List Int):Prop where
 get:h.get A=some (nU 8 C)
 fl:h.floor≤A
 nx:h.floor≤h.next
 own:∀n,n<8→wM 1 h (C n) (ls n).length (ints (ls n))
 Jo:∀n m,n<8→m<8→n≠m→∀i,(C n).id?=some i→(C m).id?≠some i
 gt:∀n,n<8→∀i,(C n).id?=some i→A<i
theorem Bu.mono {h g:H} {A:Nat} {C:Nat→AV} {ls:Nat→List Int} (b:Bu h A C ls) (hf:g.floor=h.floor) (hn:h.next≤g.next) (hg:∀i,i<h.next→g.get i=h.get i):Bu g A C ls:=
 ⟨by rw[hg A (h.lt _ _ b.get)];exact b.get,by rw[hf];exact b.fl,by rw[hf];exact vT b.nx hn,fun n hn'=>(b.own n hn').mono hf fun i q=>hg i ((b.own n hn').lt q).2,b.Jo,b.gt⟩
theorem Bu.push {h : H} {A : Nat} {C : Nat → AV} {ls : Nat → List Int} (b : Bu h A C ls) {n : Nat} (hn : n < 8) (hl : (ls n).length < 1000000) (x : Int) :
 ∃ v' h', kS (h.alloc [.int .i64 x]) 1 8 (C n) (.aF h.next 0 1 1) = some (v', h') ∧ v'.sc = true ∧ h'.get A = some (nU 8 C) ∧ h'.floor = h.floor ∧ h.next ≤ h'.next ∧
   Bu (h'.set A (nU 8 (uP C n v'))) A (uP C n v') (fun m=>if m=n then ls n++[x]else ls m)∧∀i,i<A→h'.get i=h.get i:=by
 have o:=b.own n hn
 obtain⟨v',h',p1,p2,p3,p4,p5,p6⟩:=o.push b.nx (z:=8) (m:=1) (by omega) (by omega) [.int .i64 x] rfl rfl (by simp [roomy];omega)
 have hA:=h.lt _ _ b.get
 have nA:(C n).id?≠some A:=fun q=>by have:=b.gt n hn A q;omega
 have gA:h'.get A=some (nU 8 C):=by rw[p5 A nA hA];exact b.get
 refine⟨v',h',p1,p2.sc,gA,p3,by omega,⟨by rw[wu rfl,gA];rfl,by simp [p3,b.fl],by simp [p3];have:=b.nx;omega,fun m hm=> ?_,fun m k hm hk hmk i q=> ?_,fun m hm i q=> ?_⟩,fun i hi=>p5 i (fun q=>by have:=b.gt n hn i q;omega) (by omega)⟩
 · by_cases c:m=n
   · subst c
     have e:ints (ls m)++[.int .i64 x]=ints (ls m++[x]):=by simp [ints,I]
     rw[e]at p2
     simp only[uP,if_true,vV,V8]
     exact p2.mono (by simp) fun i q=>by rw[vX];rw[p6]at q;have:=vm q;omega
   · simp only[uP,if_neg c]
     refine(b.own m hm).mono (by simp [p3]) fun i q=> ?_
     have h1:=((b.own m hm).lt q).2
     have h2:=b.gt m hm i q
     rw[vX (by omega),p5 i (fun q2=>b.Jo m n hm hn c i q q2) h1]
 · unfold uP at q ⊢
   by_cases c1:m=n
   · rw[if_pos c1,p6]at q
     have e:=vm q
     rw[if_neg (by omega)]
     intro q2
     have:=((b.own k hk).lt q2).2
     omega
   · rw[if_neg c1]at q
     by_cases c2:k=n
     · rw[if_pos c2,p6]
       intro q2
       have e:=vm q2
       have:=((b.own m hm).lt q).2
       omega
     · rw[if_neg c2]
       exact b.Jo m k hm hk hmk i q
 · unfold uP at q
   by_cases c:m=n
   · rw[if_pos c,p6]at q
     have e:=vm q
     omega
   · rw[if_neg c]at q
     exact b.gt m hm i q
theorem J4 (x:Int) (k:Nat) (hk:k≤62):bits .and .i64 x ((2^k-1:Nat):Int)=x%((2^k:Nat):Int):=by
 have h2:2^k≤2^62:=VO (by omega) hk
 have h3:0<2^k:=Nat.pow_pos (by omega)
 show IntKind.wrap .i64 (((BitVec.ofInt 64 x&&&BitVec.ofInt 64 ((2^k-1:Nat):Int)).toNat:Nat):Int)=_
 rw[BitVec.toNat_and,zD 64 (2^k-1) (by omega),BitVec.toNat_ofInt,Nat.and_two_pow_sub_one_eq_mod,vZ (by
  have:=Nat.mod_lt (x%((2^64:Nat):Int)).toNat h3
  omega)]
 have e:(((x%((2^64:Nat):Int)).toNat:Nat):Int)=x%((2^64:Nat):Int):=Int.toNat_of_nonneg (Int.emod_nonneg _ (by decide))
 rw[Int.natCast_emod,e]
 refine Int.emod_emod_of_dvd x ?_
 refine Int.natCast_dvd_natCast.2 (Nat.pow_dvd_pow 2 (by omega))
theorem To {n:Nat} (h:n<256):IntKind.wrap .u8 (n:Int)=n:=wb (by omega)
theorem KM {a n:Nat} (hn:0<n):bj .rem (.int .i64 ((a:Nat):Int)) (.int .i64 (n:Int))=some (.int .i64 ((a%n:Nat):Int)):=by
 show(if(n:Int)=0 then none else some (AV.int .i64 ((a:Int).tmod n)))=_
 rw[if_neg (by omega),Int.tmod_eq_emod_of_nonneg (by omega)];rfl
theorem B6:∀(l cs:List AV) (off:Nat),off+l.length≤cs.length→setFrom cs off l=cs.take off++(l++cs.drop (off+l.length))
 |[],cs,off,h=>by simp [setFrom]
 | v :: l, cs, off, h => by
   rw[Vy]at h
   rw[setFrom,B6 l (cs.set off v) (off+1) (by rw[VT];omega)]
   rw[List.take_set,List.drop_set_of_lt (by omega),Vy,show off+1+l.length=off+(l.length+1)by omega]
   rw[List.take_succ_eq_append_getElem (by omega),V9 _ _ (by simp;omega)]
   simp [show min off cs.length=off by omega]
def wJ (bs:List Nat):List Nat:=yc bs 0 []
theorem BX:∀(a b:List Nat) (i:Nat) (out:List Nat),yc (a++b) i out=yc b (i+a.length) (yc a i out)
 |[],b,i,out=>rfl
 | x :: a, b, i, out => by
   show yc (a++b) (i+1) (w9 out i x)=_
   rw[BX a b]
   show yc b (i+1+a.length) _=yc b (i+(a.length+1)) _
   rw[show i+1+a.length=i+(a.length+1)by omega];rfl
theorem CX (bs:List Nat) (b:Nat):wJ (bs++[b])=w9 (wJ bs) bs.length b:=by
 unfold wJ;rw[BX,vF];rfl
theorem yF (bs:List Nat):(wJ bs).length=(bs.length+7)/8:=by
 have:∀(l:List Nat) (i:Nat) (out:List Nat),out.length=(i+7)/8→(yc l i out).length=(i+l.length+7)/8:=by
  intro l
  induction l with
  |nil=>intro i out h;exact h
  |cons x l ih=>intro i out h;rw[yc,ih (i+1) _ (by rw[Dr h]),Vy];congr 1;omega
 have:=this bs 0 [] rfl
 rw[wJ,this,vF]
structure Wr (h:H) (w:Nat) (bs:List Nat) (ov:AV):Prop where
 get:h.get w=some [ov,.int .i64 (bs.length:Nat)]
 own:wM 1 h ov (wJ bs).length (yI (wJ bs))
 fl:h.floor≤w
 GO:h.floor≤h.next
 ne:ov.id?≠some w
 ES:Iu (wJ bs)
structure Dz (h:H) (w:Nat) (ov:AV) (h':H) (ov':AV):Prop where
 floor:h'.floor=h.floor
 next:h.next≤h'.next
 xc:∀i,i<h.next→i≠w→ov.id?≠some i→h'.get i=h.get i
 ids:∀j,ov'.id?=some j→ov.id?=some j∨h.next≤j
theorem Dz.refl (h:H) (w:Nat) (ov:AV):Dz h w ov h ov:=⟨rfl,vB _,fun _ _ _ _=>rfl,fun _ h=>.inl h⟩
theorem Dz.trans {h1 h2 h3:H} {w:Nat} {o1 o2 o3:AV} (a:Dz h1 w o1 h2 o2) (b:Dz h2 w o2 h3 o3):Dz h1 w o1 h3 o3:=
 ⟨by rw [b.floor, a.floor], vT a.next b.next, fun i h hw ho => by
   rw[b.xc i (by have:=a.next;omega) hw (fun q=>by rcases a.ids i q with q|q;exact ho q;omega),a.xc i h hw ho],
  fun j h=>by
   rcases b.ids j h with q|q
   · exact a.ids j q
   · exact .inr (vT a.next q)⟩
theorem JN {b k:Nat} (hb:b≤1) (hk:k<8):pP .shl .i64 (b:Int) ((k:Nat):Int)=some (.int .i64 ((b* 2^k:Nat):Int)):=by
 unfold pP
 rw[if_neg (by omega)]
 simp only[IntKind.bits,Wg,show min k 64=k by omega]
 have h1:2^k≤2^7:=VO (by omega) (by omega)
 have h2:b* 2^k≤1* 2^7:=Wn hb h1
 have:(b:Int)* 2^k=((b* 2^k:Nat):Int):=by rw[Int.natCast_mul,Int.natCast_pow];rfl
 rw[this,wi (by omega)]
theorem MV {l:List Nat} {i x:Nat} (h:l[i]?=some x):(yI l)[i]?=some (.int .u8 (x:Int)):=by simp [yI,h]
theorem QU (l:List Nat) (i x:Nat):(yI l).set i (.int .u8 (x:Int))=yI (l.set i x):=by simp [yI,List.map_set]
theorem K5 (l:List Nat):(yI l).length=l.length:=by simp [yI]
theorem LU {g:H} {w id n b:Nat} {P:List Nat} {x:Nat} (hb:b≤1) (hw:g.get w=some [.aF id 0 (n/8+1) 1,.int .i64 n]) (hi:g.get id=some (yI P)) (hl:P.length=n/8+1) (hx:P[n/8]?=some x) (hx8:x<256) (hne:id≠w) (hf:g.floor≤w) (hf2:g.floor≤id) (hn:n<1000000):
 ∃e',aL (aR AP.A) bp (JT 1 AP.f57.body) [(0,.aE w 0),(1,.int .i64 b)] g=some (.normal,e',(g.set id (yI (P.set (n/8) (x|||b* 2^(n%8))))).set w [.aF id 0 (n/8+1) 1,.int .i64 ((n:Int)+1)]):=by
 have c8:b* 2^(n%8)<256:=by
  have h1:2^(n%8)≤2^7:=VO (by omega) (by omega)
  have h2:b* 2^(n%8)≤1* 2^7:=Wn hb h1
  omega
 have s1:=JN hb (show n%8<8 by omega)
 have o1:=G2 hx8 c8
 have w1:=To (n:=b* 2^(n%8)) c8
 have rm:=KM (a:=n) (n:=8) (by omega)
 have rm':bj .rem (.int .i64 (n:Int)) (.int .i64 8)=some (.int .i64 ((n%8:Nat):Int)):=rm
 have w2:IntKind.wrap .i64 (((n/8+1:Nat):Int)-1)=((n/8:Nat):Int):=by rw[wi (by omega)];omega
 have bl:=K5 P
 have gx:=MV hx
 have st:=QU P (n/8) (x|||b* 2^(n%8))
 have sgn:((n/8:Nat):Int).toNat=n/8:=by omega
 have gw2:(g.set id (yI (P.set (n/8) (x|||b* 2^(n%8))))).get w=some [.aF id 0 (n/8+1) 1,.int .i64 n]:=by rw[vX (fun q=>hne q.symm),hw]
 generalize yI P=BP at *
 generalize b* 2^(n%8)=Y at *
 generalize (x|||Y)=Z at *
 generalize yI (P.set (n/8) Z)=BZ at *
 refine⟨?_, ?_⟩
 rotate_left
 simp (disch:=first|omega|(simp only[wY,Vy,VC,vF,Nat.reduceAdd];first|done|omega|fail)|(simp (disch:=first|omega|(simp only[wY,Vy,VC,vF,Nat.reduceAdd];first|done|omega|fail)|fail)only[wY,zX,VG,Vy,VC,vF,Nat.reduceAdd];done)|fail)only[go_sem,wc,zW,AP.f57,hw,hi,s1,o1,w1,rm',w2,bl,hl,gx,st,sgn,gw2]
 rfl
theorem AQ (P:List Nat) (x:Nat):yI (P++[x])=yI P++[.int .u8 (x:Int)]:=by simp [yI]
theorem LS {h : H} {w b : Nat} {bs : List Nat} {ov : AV} (wr : Wr h w bs ov) (hb : b ≤ 1) (hn : bs.length < 1000000) :
 ∃h' ov',aR AP.A 57 [.aE w 0,.int .i64 b] h=some (.bL [],h')∧Wr h' w (bs++[b]) ov'∧Dz h w ov h' ov':=by
 obtain⟨gw,ow,fl,GO,ne,ES⟩:=wr
 obtain⟨n,en⟩:∃n,n=bs.length:=⟨_,rfl⟩
 rw[←en]at gw hn
 have pl:=yF bs
 rw[←en]at pl
 have pa:=CX bs b
 rw[←en]at pa
 obtain⟨P,eP⟩:∃P,P=wJ bs:=⟨_,rfl⟩
 rw[←eP]at ow ES pa pl
 have wlt:=h.lt _ _ gw
 obtain ⟨g, ov', id, P', x, s1, hw, hi, hl, hx, hid, hne, hf, hf2, hflx, hP, hk, hx8, hids, hbt⟩ : ∃ g ov' id P' x, aL (aR AP.A) bp (at_ 0 AP.f57.body) [(0, .aE w 0), (1, .int .i64 b)] h = some (.normal, [(0, .aE w 0), (1, .int .i64 b)], g) ∧ g.get w = some [.aF id 0 (n / 8 + 1) 1, .int .i64 n] ∧ g.get id = some (yI P') ∧ P'.length = n / 8 + 1 ∧ P'[n / 8]? = some x ∧ ov' = AV.aF id 0 (n / 8 + 1) 1 ∧ id ≠ w ∧ g.floor = h.floor ∧ h.floor ≤ id ∧ h.next ≤ g.next ∧ w9 P n b = P'.set (n / 8) (x ||| b * 2 ^ (n % 8)) ∧ (∀ i, i < h.next → i ≠ w → ov.id? ≠ some i → g.get i = h.get i) ∧ x < 256 ∧ (ov.id? = some id ∨ h.next ≤ id) ∧ Iu P' := by
  have rm:bj .rem (.int .i64 (n:Int)) (.int .i64 8)=some (.int .i64 ((n%8:Nat):Int)):=KM (a:=n) (n:=8) (by omega)
  by_cases c:n%8=0
  · have cz:((n%8:Nat):Int)=0:=by omega
    obtain⟨v',h',p1,p2,p3,p4,p5,p6⟩:=ow.push GO (z:=1) (m:=1) (by omega) (by omega) [.int .u8 0] rfl rfl (xK (by omega))
    have gw1:h'.get w=some [ov,.int .i64 n]:=by rw[p5 w ne wlt,gw]
    have e1:=p2.1
    rcases p2.2 with ⟨_,q⟩|⟨id,q1,q2,q3,q4⟩
    · omega
    · have hk:P.length+1=n/8+1:=by omega
      rw[hk]at q1
      have qid:id=h.next+1:=by rw[q1]at p6;exact vm p6
      refine⟨h'.set w [v',.int .i64 n],v',id,P++[0],0, ?_, ?_, ?_, ?_, ?_,q1,by omega,by simp [p3],by omega, ?_, ?_, ?_,by omega,.inr (by omega), ?_⟩
      · rw[q1]
        rw[q1]at p1
        have fl':h'.floor≤w:=by omega
        simp (disch:=omega)only[go_sem,wc,AP.f57,xL,gw,gw1,rm,cz,p1,fl',wu,vX]
      · rw[wu rfl,gw1,q1];rfl
      · rw[vX (by omega),q2,AQ];rfl
      · simp;omega
      · rw[VL (by omega),show n/8-P.length=0 by omega];rfl
      · simp;omega
      · unfold w9;rw[if_pos c];dsimp only;rw[Vx,VL (by omega),show n/8-P.length=0 by omega];rfl
      · intro i hi hiw hio
        rw[vX hiw,p5 i hio hi]
      · intro y hy
        rcases VY.1 hy with q|q
        · exact ES y q
        · simp at q;omega
  · have cz:¬((n%8:Nat):Int)=0:=by omega
    rcases ow.2 with ⟨_,q⟩|⟨id,q1,q2,q3,q4⟩
    · omega
    · have hk:P.length=n/8+1:=by omega
      rw[hk]at q1
      obtain⟨x,hx⟩:∃x,P[n/8]?=some x:=⟨_,Vz (by omega)⟩
      have hneq:id≠w:=fun q=>ne (by rw[q1,q];rfl)
      refine⟨h,ov,id,P,x, ?_,by rw[gw,q1],q2,hk,hx,q1,hneq,rfl,q3,vB _, ?_,fun _ _ _ _=>rfl,ES x (vE hx),.inl (by rw[q1];rfl),ES⟩
      · simp (disch:=first|omega|(simp only[wY,Vy,VC,vF,Nat.reduceAdd];first|done|omega|fail)|(simp (disch:=first|omega|(simp only[wY,Vy,VC,vF,Nat.reduceAdd];first|done|omega|fail)|fail)only[wY,zX,VG,Vy,VC,vF,Nat.reduceAdd];done)|fail)only[go_sem,wc,zW,AP.f57,gw,rm,cz]
      · unfold w9;rw[if_neg c];dsimp only;rw[Vx,hx];rfl
 obtain⟨e',s2⟩:=LU hb hw hi hl hx hx8 hne (by omega) (by omega) hn
 have cs:aR AP.A 57 [.aE w 0,.int .i64 b] h=some (.bL [],(g.set id (yI (P'.set (n/8) (x|||b* 2^(n%8))))).set w [.aF id 0 (n/8+1) 1,.int .i64 ((n:Int)+1)]):=by
  refine xb (fn:=AP.f57) (e:=e') (vs:=[]) rfl rfl rfl ?_ rfl
  have hb:AP.f57.body=.seq (at_ 0 AP.f57.body) (JT 1 AP.f57.body):=rfl
  rw[hb,sI]
  have s1':aL (aR AP.A) bp (at_ 0 AP.f57.body) (params 0 [.aE w 0,.int .i64 b]) h=some (.normal,[(0,.aE w 0),(1,.int .i64 b)],g):=s1
  rw[s1',tB,s2]
 rw[←hP]at cs
 have ol:(w9 P n b).length=n/8+1:=by rw[hP,VT,hl]
 refine⟨_,ov',cs,⟨?_, ?_, ?_, ?_, ?_, ?_⟩, ?_, ?_, ?_, ?_⟩
 · rw[wu rfl,vX hne.symm,hw,hid,vV,←en];rfl
 · rw[pa,hid]
   exact⟨by simp [yI,ol],.inr ⟨id,by rw[ol],by rw[vX hne,wu rfl,hi];rfl,by simpa [hf]using hf2,by omega⟩⟩
 · simpa [hf]using fl
 · simp;omega
 · rw[hid];exact fun q=>hne (vm q)
 · rw[pa];exact Bb hb ES
 · simp [hf]
 · simpa using hflx
 · intro i hi1 hi2 hi3
   have:i≠id:=by
    rcases hids with q|q
    · intro q2;exact hi3 (by rw[q,q2])
    · omega
   rw[vX hi2,vX this,hk i hi1 hi2 hi3]
 · intro j hj
   rw[hid]at hj
   obtain rfl:=vm hj
   exact hids
def B5 (v:Nat):Nat→Nat→List Nat
 |_,0=>[]
 |i,m+1=>v/2^i%2::B5 v (i+1) m
def wA (v n:Nat):List Nat:=B5 v 0 n
def yC (v:Nat):Nat→List Nat
 |0=>[]
 |m+1=>v/2^m%2::yC v m
theorem wE (v:Nat):∀m i,(B5 v i m).length=m
 |0,_=>rfl
 |m+1,i=>by simp [B5,wE v m]
theorem xm (v:Nat):∀m,(yC v m).length=m
 |0=>rfl
 |m+1=>by simp [yC,xm v m]
theorem Cf {n:Nat} (h:n<1000000000):bits .and .i64 (n:Int) 1=((n%2:Nat):Int):=by
 have:=J4 (n:Int) 1 (by omega)
 exact this.trans (by omega)
theorem F4 (w v n:Nat) (hv:v<65536) (hn:n≤16):∀(m i:Nat) (h:H) (bs:List Nat) (ov:AV),i+m=n→Wr h w bs ov→bs.length+m<1000000→
 ∃e' h' ov',Lp AP.A [0,1,2,7] AP.f33L0 [(0,.aE w 0),(1,.int .i64 v),(2,.int .i64 n),(7,.int .i64 i)] h=some (.exit 0,e',h')∧Wr h' w (bs++B5 v i m) ov'∧Dz h w ov h' ov'
 | 0, i, h, bs, ov, hi, wr, hb => by
   obtain rfl:i=n:=by omega
   refine⟨[(0,.aE w 0),(1,.int .i64 v),(2,.int .i64 i),(7,.int .i64 i),(35,.bool false)],h,ov,tW ?_,by simpa [B5]using wr,Dz.refl h w ov⟩
   simp (disch:=omega)only[go_sem,wc,AP.f33L0]
 | m + 1, i, h, bs, ov, hi, wr, hb => by
   have q:=Nat.div_le_self v (2^i)
   obtain⟨h1,o1,k1,wr1,f1⟩:=LS wr (b:=v/2^i%2) (by omega) (by omega)
   obtain⟨e',h',ov',r1,r2,r3⟩:=F4 w v n hv hn m (i+1) h1 _ o1 (by omega) wr1 (by simp;omega)
   have n1:((i+1:Nat):Int)=(i:Int)+1:=by omega
   have s1:=CG (a:=v) (s:=i) (by omega)
   have a1:=Cf (n:=v/2^i) (by omega)
   rw[VH]at r2
   refine⟨e',h',ov',tX ?_ r1,r2,f1.trans r3⟩
   rw[n1]
   simp (disch:=omega)only[go_sem,wc,AP.f33L0,s1,a1,k1]
theorem zR {h:H} {w:Nat} {bs:List Nat} {ov:AV} (wr:Wr h w bs ov) (v n:Nat) (hn:n≤16) (hv:v<2^n) (hb:bs.length+n≤65536):
 ∃h' ov',aR AP.A 33 [.aE w 0,.int .i64 v,.int .i64 n] h=some (.int .i64 0,h')∧Wr h' w (bs++wA v n) ov'∧Dz h w ov h' ov':=by
 have hp:2^n≤2^16:=VO (by omega) hn
 obtain⟨e',h',ov',r1,r2,r3⟩:=F4 w v n (by omega) hn n 0 h bs ov (by omega) wr (by omega)
 have r1':Lp AP.A [0,1,2,7] AP.f33L0 [(0,.aE w 0),(1,.int .i64 v),(2,.int .i64 n),(7,.int .i64 0)] h=some (.exit 0,e',h'):=r1
 clear r1
 have gw:=wr.get
 have s1:pP .shl .i64 1 (n:Int)=some (.int .i64 ((2^n:Nat):Int)):=by
  have:=yL (a:=1) (s:=n) (by omega) (by omega)
  rwa [Nat.one_mul]at this
 refine⟨h',ov',um (fn:=AP.f33) (e:=[(6,.int .i64 0)]) (vs:=[.int .i64 0]) rfl rfl rfl ?_ rfl,r2,r3⟩
 generalize 2^n=N at *
 simp (disch:=omega)only[go_sem,wc,AP.f33,sX,r1',gw,s1]
theorem EO (w v:Nat) (A:List AV) (hA:A[1]?=some (.int .i64 v)) (hA2:A.length=2) (c:Nat) (hv:v<65536):∀(m:Nat) (h:H) (bs:List Nat) (ov:AV),m≤15→Wr h w bs ov→bs.length+m<1000000→h.get c=some A→c≠w→ov.id?≠some c→
 ∃e' h' ov',Lp AP.A [0,3,5] AP.f35L0 [(0,.aE w 0),(3,.aE c 0),(5,.int .i64 ((m:Int)-1))] h=some (.exit 0,e',h')∧Wr h' w (bs++yC v m) ov'∧Dz h w ov h' ov'
 | 0, h, bs, ov, hm, wr, hb, hc, hcw, hco => by
   refine⟨[(0,.aE w 0),(3,.aE c 0),(5,.int .i64 (-1)),(41,.bool false)],h,ov,tW ?_,by simpa [yC]using wr,Dz.refl h w ov⟩
   simp (disch:=omega)only[go_sem,wc,AP.f35L0]
 | m + 1, h, bs, ov, hm, wr, hb, hc, hcw, hco => by
   have q:=Nat.div_le_self v (2^m)
   obtain⟨h1,o1,k1,wr1,f1⟩:=LS wr (b:=v/2^m%2) (by omega) (by omega)
   have hcl:=h.lt _ _ hc
   obtain⟨e',h',ov',r1,r2,r3⟩:=EO w v A hA hA2 c hv m h1 _ o1 (by omega) wr1 (by simp;omega) (by rw[f1.xc c hcl hcw hco,hc]) hcw (fun q=>by rcases f1.ids c q with q|q;exact hco q;omega)
   have n1:((m+1:Nat):Int)-1=(m:Int):=by omega
   have s1:=CG (a:=v) (s:=m) (by omega)
   have a1:=Cf (n:=v/2^m) (by omega)
   rw[VH]at r2
   refine⟨e',h',ov',tX ?_ r1,r2,f1.trans r3⟩
   rw[n1]
   simp (disch:=omega)only[go_sem,wc,AP.f35L0,s1,a1,k1,hc,hA,hA2]
theorem CJ {h:H} {w:Nat} {bs:List Nat} {ov:AV} (wr:Wr h w bs ov) (v n:Nat) (hn0:1≤n) (hn:n≤15) (hv:v<2^n) (hb:bs.length+n≤65536):
 ∃h' ov',aR AP.A 35 [.aE w 0,.agg [.int .i64 n,.int .i64 v]] h=some (.int .i64 0,h')∧Wr h' w (bs++yC v n) ov'∧Dz h w ov h' ov':=by
 have hp:2^n≤2^15:=VO (by omega) hn
 obtain⟨g,eg⟩:∃g,g=h.alloc [.int .i64 n,.int .i64 v]:=⟨_,rfl⟩
 have hw:=h.lt _ _ wr.get
 have frA:∀i,i<h.next→g.get i=h.get i:=fun i hi=>by rw[eg,v8 (by omega)]
 have wr1:Wr g w bs ov:=⟨by rw[frA w hw,wr.get],wr.own.mono (by rw[eg];simp) (fun i q=>frA i (wr.own.lt q).2),by rw[eg];simpa using wr.fl,by rw[eg];have:=wr.GO;simp;omega,wr.ne,wr.ES⟩
 have gc:g.get h.next=some [.int .i64 n,.int .i64 v]:=by rw[eg,wh rfl]
 obtain⟨e',h',ov',r1,r2,r3⟩:=EO w v _ rfl rfl h.next (by omega) n g bs ov hn wr1 (by omega) gc (by omega) (fun q=>by have:=(wr.own.lt q).2;omega)
 have gw:=wr1.get
 have s1:pP .shl .i64 1 (n:Int)=some (.int .i64 ((2^n:Nat):Int)):=by
  have:=yL (a:=1) (s:=n) (by omega) (by omega)
  rwa [Nat.one_mul]at this
 refine⟨h',ov',um (fn:=AP.f35) (e:=[(4,.int .i64 0)]) (vs:=[.int .i64 0]) rfl rfl rfl ?_ rfl,r2,⟨by rw[r3.floor,eg];simp,by have:=r3.next;rw[eg]at this;simp at this;omega,fun i h1 h2 h3=>by rw[r3.xc i (by rw[eg];simp;omega) h2 h3,frA i h1],fun j hj=>by
  rcases r3.ids j hj with q|q
  · exact .inl q
  · rw[eg]at q;simp at q;exact .inr (by omega)⟩⟩
 generalize 2^n=N at *
 simp (disch:=omega)only[go_sem,wc,AP.f35,sX,←eg,r1,gw,gc,s1]
theorem GN {h:H} {w:Nat} {bs:List Nat} {ov:AV} (wr:Wr h w bs ov):aR AP.A 37 [.aE w 0] h=some (.str (bytesOf (wJ bs)),h):=by
 have gw:=wr.get
 have b:=Cg wr.own
 refine um (fn:=AP.f37) (e:=[(2,.str (bytesOf (wJ bs)))]) (vs:=[.str (bytesOf (wJ bs))]) rfl rfl rfl ?_ rfl
 simp (disch:=omega)only[go_sem,wc,AP.f37,gw,b]
def wD (o:Option (Nat×Nat)):Nat:=(o.getD (0,0)).1
def xu (o:Option (Nat×Nat)):Nat:=(o.getD (0,0)).2
def yZ (f:Nat→Option (Nat×Nat)) (k:Nat):Nat→Nat
 |0=>0
 |s+1=>if wD (f (s+1))≤k then s+1 else yZ f k s
def xB (k:Nat):Nat:=yZ lenOf k 285
def yP (k:Nat):Nat:=xu (lenOf (xB k))
def y9 (k:Nat):Nat:=k-wD (lenOf (xB k))
def xG (k:Nat):Nat:=yZ wI k 29
def yT (k:Nat):Nat:=xu (wI (xG k))
def zj (k:Nat):Nat:=k-wD (wI (xG k))
theorem AE {s:Nat} (h1:257≤s) (h2:s≤285):∃a b,lenOf s=some (a,b):=by
 unfold lenOf;rw[if_neg (by omega)];split;exact⟨_,_,rfl⟩;split<;>exact⟨_,_,rfl⟩
theorem zU {s:Nat} (h2:s≤29):∃a b,wI s=some (a,b):=by
 unfold wI;rw[if_neg (by omega)];split<;>exact⟨_,_,rfl⟩
theorem JB:∀s,257≤s→s<285→wD (lenOf (s+1))≤wD (lenOf s)+2^xu (lenOf s):=by
 intro s h1 h2
 have:∀s<285,257≤s→wD (lenOf (s+1))≤wD (lenOf s)+2^xu (lenOf s):=by decide+kernel
 exact this s h2 h1
theorem Hj:∀s,s<29→wD (wI (s+1))≤wD (wI s)+2^xu (wI s):=by decide+kernel
theorem yV {k : Nat} (h1 : 3 ≤ k) (h2 : k ≤ 258) : 257 ≤ xB k ∧ xB k ≤ 285 ∧ wD (lenOf (xB k)) ≤ k ∧ k < wD (lenOf (xB k)) + 2 ^ xu (lenOf (xB k)) := by
 have key:∀n s,s=257+n→s≤285→(s=285∨k<wD (lenOf (s+1)))→257≤yZ lenOf k s∧yZ lenOf k s≤285∧wD (lenOf (yZ lenOf k s))≤k∧k<wD (lenOf (yZ lenOf k s))+2^xu (lenOf (yZ lenOf k s)):=by
  intro n
  induction n with
  | zero =>
    intro s hs h hk
    obtain rfl:s=257:=hs
    have e:yZ lenOf k 257=257:=by rw[yZ,if_pos (show wD (lenOf (256+1))≤k from h1)]
    have g:=JB 257 (by omega) (by omega)
    rw[e]
    refine⟨by omega,by omega,h1, ?_⟩
    rcases hk with q|q
    · omega
    · omega
  | succ n ih =>
    intro s hs h hk
    obtain⟨s,rfl⟩:∃t,s=t+1:=⟨s-1,by omega⟩
    by_cases c:wD (lenOf (s+1))≤k
    · rw [yZ, if_pos c]
      refine⟨by omega,by omega,c, ?_⟩
      rcases hk with q|q
      · obtain rfl:s=284:=by omega
        have:wD (lenOf (284+1))=258:=rfl
        have:0<2^xu (lenOf (284+1)):=Nat.pow_pos (by omega)
        omega
      · by_cases c2:s+1=285
        · obtain rfl:s=284:=by omega
          have:wD (lenOf (284+1))=258:=rfl
          have:0<2^xu (lenOf (284+1)):=Nat.pow_pos (by omega)
          omega
        · have:=JB (s+1) (by omega) (by omega);omega
    · rw[yZ,if_neg c]
      exact ih s (by omega) (by omega) (.inr (by omega))
 exact key 28 285 (by omega) (by omega) (.inl rfl)
theorem yU {k : Nat} (h1 : 1 ≤ k) (h2 : k ≤ 32768) : xG k ≤ 29 ∧ wD (wI (xG k)) ≤ k ∧ k < wD (wI (xG k)) + 2 ^ xu (wI (xG k)) := by
 have l0:wD (wI 0)=1:=rfl
 have key:∀s,s≤29→(s=29∨k<wD (wI (s+1)))→yZ wI k s≤29∧wD (wI (yZ wI k s))≤k∧k<wD (wI (yZ wI k s))+2^xu (wI (yZ wI k s)):=by
  intro s
  induction s with
  | zero =>
    intro h hk
    rw[yZ]
    have g:=Hj 0 (by omega)
    refine⟨by omega,by omega, ?_⟩
    rcases hk with q|q<;>omega
  | succ s ih =>
    intro h hk
    by_cases c:wD (wI (s+1))≤k
    · rw[yZ,if_pos c]
      refine⟨by omega,c, ?_⟩
      by_cases c2:s+1=29
      · obtain rfl:s=28:=by omega
        have a1:wD (wI (28+1))=24577:=rfl
        have a2:2^xu (wI (28+1))=8192:=rfl
        omega
      · have:=Hj (s+1) (by omega)
        rcases hk with q|q<;>omega
    · rw[yZ,if_neg c]
      exact ih (by omega) (.inr (by omega))
 exact key 29 (by omega) (.inl rfl)
theorem Ko (k:Nat) (h1:3≤k) (h2:k≤258) (g:H) (id:Nat) (hf:g.floor≤id) (hfl:g.floor≤g.next) (hg:g.get id=some [.int .i64 0,.int .i64 0,.int .i64 0]):∀n s:Nat,s=257+n→s≤285→
 Lp AP.A [0,2,4] AP.f28L0 [(0,.int .i64 k),(2,.aE id 0),(4,.int .i64 s)] g=some (.ret,[(2,.aE id 0),(3,.int .i64 0)],g.set id [.int .i64 (yZ lenOf k s:Nat),.int .i64 (xu (lenOf (yZ lenOf k s)):Nat),.int .i64 ((k-wD (lenOf (yZ lenOf k s)):Nat):Int)]):=by
 intro n
 induction n with
 | zero =>
   intro s hs h
   obtain rfl:s=257:=hs
   have e:yZ lenOf k 257=257:=by rw[yZ,if_pos (show wD (lenOf (256+1))≤k from h1)]
   have l1:wD (lenOf 257)=3:=rfl
   have b1:xu (lenOf 257)=0:=rfl
   have kk:aR AP.A 50 [.int .i64 257] g=_:=HF g 257 (by omega)
   have tt:Bm (lenOf 257)=.bL [.int .i64 3,.int .i64 0,.int .i64 0]:=rfl
   rw[tt]at kk
   rw[e,l1,b1]
   have n1:((k-3:Nat):Int)=(k:Int)-3:=by omega
   rw[n1]
   refine uz ?_
   simp (disch:=first|omega|(simp only[wY,Vy,VC,vF,Nat.reduceAdd];first|done|omega|fail)|(simp (disch:=first|omega|(simp only[wY,Vy,VC,vF,Nat.reduceAdd];first|done|omega|fail)|fail)only[wY,zX,VG,Vy,VC,vF,Nat.reduceAdd];done)|fail)only[go_sem,wc,zW,AP.f28L0,kk,hg]
 | succ n ih =>
   intro s hs h
   obtain⟨s,rfl⟩:∃t,s=t+1:=⟨s-1,by omega⟩
   obtain⟨a,b,hab⟩:=AE (s:=s+1) (by omega) h
   have kk:=HF g (s+1) (by omega)
   rw[hab]at kk
   simp only[I,Bm]at kk
   have la:wD (lenOf (s+1))=a:=by rw[hab];rfl
   have lb:xu (lenOf (s+1))=b:=by rw[hab];rfl
   have bd:=Ct hab
   by_cases c1:a≤k
   · rw[yZ,la,if_pos c1,la,lb]
     have n1:((k-a:Nat):Int)=(k:Int)-(a:Int):=by omega
     rw[n1]
     refine uz ?_
     simp (disch:=first|omega|(simp only[wY,Vy,VC,vF,Nat.reduceAdd];first|done|omega|fail)|(simp (disch:=first|omega|(simp only[wY,Vy,VC,vF,Nat.reduceAdd];first|done|omega|fail)|fail)only[wY,zX,VG,Vy,VC,vF,Nat.reduceAdd];done)|fail)only[go_sem,wc,zW,AP.f28L0,kk,hg]
   · rw[yZ,la,if_neg c1]
     have r1:=ih s (by omega) (by omega)
     have n1:((s+1:Nat):Int)-1=(s:Int):=by omega
     refine tX (e':=[(0,.int .i64 k),(2,.aE id 0),(4,.int .i64 s)]) ?_ r1
     simp (disch:=first|omega|(simp only[wY,Vy,VC,vF,Nat.reduceAdd];first|done|omega|fail)|(simp (disch:=first|omega|(simp only[wY,Vy,VC,vF,Nat.reduceAdd];first|done|omega|fail)|fail)only[wY,zX,VG,Vy,VC,vF,Nat.reduceAdd];done)|fail)only[go_sem,wc,zW,AP.f28L0,kk,n1]
theorem HG (h:H) (k:Nat) (h1:3≤k) (h2:k≤258):aR AP.A 28 [.int .i64 k] h=some (.bL [.agg [.int .i64 (xB k:Nat),.int .i64 (yP k:Nat),.int .i64 (y9 k:Nat)],.int .i64 0],h):=by
 have r1:=Ko k h1 h2 (h.dQ.alloc [.int .i64 0,.int .i64 0,.int .i64 0]) h.next (by simp) (by simp) (by rw[wh (by simp)]) 28 285 (by omega) (by omega)
 have r1':Lp AP.A [0,2,4] AP.f28L0 [(0,.int .i64 k),(2,.aE h.next 0),(4,.int .i64 285)] (h.dQ.alloc [.int .i64 0,.int .i64 0,.int .i64 0])=some (.ret,[(2,.aE h.next 0),(3,.int .i64 0)],(h.dQ.alloc [.int .i64 0,.int .i64 0,.int .i64 0]).set h.next [.int .i64 (xB k:Nat),.int .i64 (yP k:Nat),.int .i64 (y9 k:Nat)]):=r1
 clear r1
 generalize xB k=S at *
 generalize yP k=B at *
 generalize y9 k=V at *
 refine uL (fn:=AP.f28) (h2:=(h.dQ.alloc [.int .i64 0,.int .i64 0,.int .i64 0]).set h.next [.int .i64 S,.int .i64 B,.int .i64 V]) (e:=[(2,.aE h.next 0),(3,.int .i64 0)]) (vs:=[.agg [.int .i64 S,.int .i64 B,.int .i64 V],.int .i64 0]) rfl rfl rfl ?_ ?_ ?_
 · simp (disch:=first|omega|(simp only[wY,Vy,VC,vF,Nat.reduceAdd];first|done|omega|fail)|(simp (disch:=first|omega|(simp only[wY,Vy,VC,vF,Nat.reduceAdd];first|done|omega|fail)|fail)only[wY,zX,VG,Vy,VC,vF,Nat.reduceAdd];done)|fail)only[go_sem,wc,zW,AP.f28,sX,r1']
 · simp (disch:=first|omega|(simp only[wY,Vy,VC,vF,Nat.reduceAdd];first|done|omega|fail)|(simp (disch:=first|omega|(simp only[wY,Vy,VC,vF,Nat.reduceAdd];first|done|omega|fail)|fail)only[wY,zX,VG,Vy,VC,vF,Nat.reduceAdd];done)|fail)only[go_sem,wc,zW,AP.f28,cu,nM];rfl
 · rfl
theorem IA (k:Nat) (h1:1≤k) (h2:k≤32768) (g:H) (id:Nat) (hf:g.floor≤id) (hfl:g.floor≤g.next) (hg:g.get id=some [.int .i64 0,.int .i64 0,.int .i64 0]):∀n s:Nat,s=n→s≤29→
 Lp AP.A [0,2,4] AP.f29L0 [(0,.int .i64 k),(2,.aE id 0),(4,.int .i64 s)] g=some (.ret,[(2,.aE id 0),(3,.int .i64 0)],g.set id [.int .i64 (yZ wI k s:Nat),.int .i64 (xu (wI (yZ wI k s)):Nat),.int .i64 ((k-wD (wI (yZ wI k s)):Nat):Int)]):=by
 intro n
 induction n with
 | zero =>
   intro s hs h
   obtain rfl:s=0:=hs
   have e:yZ wI k 0=0:=rfl
   have l1:wD (wI 0)=1:=rfl
   have b1:xu (wI 0)=0:=rfl
   have kk:aR AP.A 51 [.int .i64 0] g=_:=E9 g 0 (by omega)
   have tt:Bm (wI 0)=.bL [.int .i64 1,.int .i64 0,.int .i64 0]:=rfl
   rw[tt]at kk
   rw[e,l1,b1]
   have n1:((k-1:Nat):Int)=(k:Int)-1:=by omega
   rw[n1]
   refine uz ?_
   simp (disch:=first|omega|(simp only[wY,Vy,VC,vF,Nat.reduceAdd];first|done|omega|fail)|(simp (disch:=first|omega|(simp only[wY,Vy,VC,vF,Nat.reduceAdd];first|done|omega|fail)|fail)only[wY,zX,VG,Vy,VC,vF,Nat.reduceAdd];done)|fail)only[go_sem,wc,zW,AP.f29L0,kk,hg]
 | succ n ih =>
   intro s hs h
   obtain⟨s,rfl⟩:∃t,s=t+1:=⟨s-1,by omega⟩
   obtain⟨a,b,hab⟩:=zU (s:=s+1) h
   have kk:=E9 g (s+1) (by omega)
   rw[hab]at kk
   simp only[I,Bm]at kk
   have la:wD (wI (s+1))=a:=by rw[hab];rfl
   have lb:xu (wI (s+1))=b:=by rw[hab];rfl
   have bd:=Bp hab
   by_cases c1:a≤k
   · rw[yZ,la,if_pos c1,la,lb]
     have n1:((k-a:Nat):Int)=(k:Int)-(a:Int):=by omega
     rw[n1]
     refine uz ?_
     simp (disch:=first|omega|(simp only[wY,Vy,VC,vF,Nat.reduceAdd];first|done|omega|fail)|(simp (disch:=first|omega|(simp only[wY,Vy,VC,vF,Nat.reduceAdd];first|done|omega|fail)|fail)only[wY,zX,VG,Vy,VC,vF,Nat.reduceAdd];done)|fail)only[go_sem,wc,zW,AP.f29L0,kk,hg]
   · rw[yZ,la,if_neg c1]
     have r1:=ih s (by omega) (by omega)
     have n1:((s+1:Nat):Int)-1=(s:Int):=by omega
     refine tX (e':=[(0,.int .i64 k),(2,.aE id 0),(4,.int .i64 s)]) ?_ r1
     simp (disch:=first|omega|(simp only[wY,Vy,VC,vF,Nat.reduceAdd];first|done|omega|fail)|(simp (disch:=first|omega|(simp only[wY,Vy,VC,vF,Nat.reduceAdd];first|done|omega|fail)|fail)only[wY,zX,VG,Vy,VC,vF,Nat.reduceAdd];done)|fail)only[go_sem,wc,zW,AP.f29L0,kk,n1]
theorem Lf (h:H) (k:Nat) (h1:1≤k) (h2:k≤32768):aR AP.A 29 [.int .i64 k] h=some (.bL [.agg [.int .i64 (xG k:Nat),.int .i64 (yT k:Nat),.int .i64 (zj k:Nat)],.int .i64 0],h):=by
 have r1:=IA k h1 h2 (h.dQ.alloc [.int .i64 0,.int .i64 0,.int .i64 0]) h.next (by simp) (by simp) (by rw[wh (by simp)]) 29 29 (by omega) (by omega)
 have r1':Lp AP.A [0,2,4] AP.f29L0 [(0,.int .i64 k),(2,.aE h.next 0),(4,.int .i64 29)] (h.dQ.alloc [.int .i64 0,.int .i64 0,.int .i64 0])=some (.ret,[(2,.aE h.next 0),(3,.int .i64 0)],(h.dQ.alloc [.int .i64 0,.int .i64 0,.int .i64 0]).set h.next [.int .i64 (xG k:Nat),.int .i64 (yT k:Nat),.int .i64 (zj k:Nat)]):=r1
 clear r1
 generalize xG k=S at *
 generalize yT k=B at *
 generalize zj k=V at *
 refine uL (fn:=AP.f29) (h2:=(h.dQ.alloc [.int .i64 0,.int .i64 0,.int .i64 0]).set h.next [.int .i64 S,.int .i64 B,.int .i64 V]) (e:=[(2,.aE h.next 0),(3,.int .i64 0)]) (vs:=[.agg [.int .i64 S,.int .i64 B,.int .i64 V],.int .i64 0]) rfl rfl rfl ?_ ?_ ?_
 · simp (disch:=first|omega|(simp only[wY,Vy,VC,vF,Nat.reduceAdd];first|done|omega|fail)|(simp (disch:=first|omega|(simp only[wY,Vy,VC,vF,Nat.reduceAdd];first|done|omega|fail)|fail)only[wY,zX,VG,Vy,VC,vF,Nat.reduceAdd];done)|fail)only[go_sem,wc,zW,AP.f29,sX,r1']
 · simp (disch:=first|omega|(simp only[wY,Vy,VC,vF,Nat.reduceAdd];first|done|omega|fail)|(simp (disch:=first|omega|(simp only[wY,Vy,VC,vF,Nat.reduceAdd];first|done|omega|fail)|fail)only[wY,zX,VG,Vy,VC,vF,Nat.reduceAdd];done)|fail)only[go_sem,wc,zW,AP.f29,cu,nM];rfl
 · rfl
theorem QG (h:H) (v:AV) (ts:List Tok) (hn:ts.length<1125899906842624) (rd:xR 3 h v ts.length (wG ts)):aR AP.A 69 [v] h=some (.bool (wF 0 ts),h):=by
 have yO:xR 3 h.dQ v ts.length (wG ts):=rd.mono fun i c q=>q
 have hfl:h.dQ.floor≤h.dQ.next:=by simp
 rcases FW hn h.dQ yO ts [] 0 h.dQ rfl (by omega) (Ext.refl _) (vB _) hfl with ⟨e',h',r1,r2⟩|⟨e',h',r1,r2,r3⟩
 · have r1':Lp AP.A [0,3,4] AP.f69L0 [(0,v),(3,.int .i64 0),(4,.int .i64 0)] h.dQ=some (.exit 0,e',h'):=r1
   rw[r2]
   refine uL (fn:=AP.f69) (h2:=h') (e:=[(2,.bool true)]) rfl rfl rfl ?_ rfl rfl
   simp (disch:=omega)only[go_sem,wc,AP.f69,sX,r1']
 · have r1':Lp AP.A [0,3,4] AP.f69L0 [(0,v),(3,.int .i64 0),(4,.int .i64 0)] h.dQ=some (.ret,e',h'):=r1
   rw[r3]
   obtain⟨e2,he2⟩:∃e2,aL (aR AP.A) bp AP.f69.body (params 0 [v]) h.dQ=some (.ret,e2,h')∧look e2 2=.bool false:=by
    refine⟨e', ?_,r2⟩
    simp (disch:=omega)only[go_sem,wc,AP.f69,sX,r1']
   refine uL (fn:=AP.f69) (h2:=h') (e:=e2) (vs:=[.bool false]) rfl rfl rfl he2.1 ?_ rfl
   simp only[AP.f69,cu,nM,he2.2];rfl
def Gc (d:Nat):Nat→List Nat→List Nat
 |0,o=>o
 |n+1,o=>Gc d n (o++[o.getD (o.length-d) 0])
theorem Co (d:Nat):∀n o,(Gc d n o).length=o.length+n
 |0,o=>rfl
 |n+1,o=>by rw[Gc,Co d n];simp;omega
theorem Jl (d:Nat):∀n o,Iu o→Iu (Gc d n o)
 |0,o,h=>h
 | n + 1, o, h => by
   refine Jl d n _ fun x hx=> ?_
   rcases VY.1 hx with q|q
   · exact h x q
   · simp only[List.mem_singleton]at q
     subst q
     rw[Vx]
     cases hg:o[o.length-d]? with
     |none=>simp
     |some y=>exact h y (vE hg)
def wR (o:List Nat) (t:Tok):List Nat:=if t.len=0 then o++[t.lit.toNat]else Gc t.wL.toNat t.len.toNat o
def ya:List Tok→List Nat→List Nat
 |[],o=>o
 |t::r,o=>ya r (wR o t)
theorem Hc {v:AV} {ts:List Tok} (hn:ts.length<1125899906842624) (h0:H) (rd:xR 3 h0 v ts.length (wG ts)) (i:Nat) (t:Tok) (ht:ts[i]?=some t) (L D:Nat) (hL:t.len=L) (hD:t.wL=D) (hLb:L≤258) (hD1:1≤D):∀(m j:Nat) (out:List Nat) (h:H) (ov:AV),j+m=L→D≤out.length→out.length+m≤10000→Iu out→Ext h0 h→h0.next≤h.floor→h.floor≤h.next→wM 1 h ov out.length (yI out)→
 ∃h' ov',Lp AP.A [0,4,5,6] AP.f55L0 [(0,v),(4,ov),(5,.int .i64 i),(6,.int .i64 j)] h=some (.exit 2,[(0,v),(4,ov'),(5,.int .i64 i),(6,.int .i64 L),(37,.bool false)],h')∧Ext h0 h'∧h'.floor=h.floor∧h'.floor≤h'.next∧wM 1 h' ov' (Gc D m out).length (yI (Gc D m out))
 | 0, j, out, h, ov, hj, hDo, hs, hb, hx, hf, hfn, ow => by
   obtain rfl:j=L:=by omega
   obtain⟨ad,a1,a2,a3⟩:=rd.DA
   have hi:i<ts.length:=(vt.1 ht).1
   have hI:(0:Int)≤(i:Int)∧(i:Int)<ts.length:=⟨by omega,by omega⟩
   have b1:=a1 _ hI
   have b2:=a2 i 0 1 hI
   obtain⟨_,b3,_,_⟩:=a3 h hx _ _ ht
   rw[hL]at b3
   clear a1 a2 a3
   refine⟨h,ov,tW ?_,hx,rfl,hfn,ow⟩
   simp (disch:=omega)only[go_sem,wc,AP.f55L0,b1,b2,b3]
 | m + 1, j, out, h, ov, hj, hDo, hs, hb, hx, hf, hfn, ow => by
   obtain⟨ad,a1,a2,a3⟩:=rd.DA
   have hi:i<ts.length:=(vt.1 ht).1
   have hI:(0:Int)≤(i:Int)∧(i:Int)<ts.length:=⟨by omega,by omega⟩
   have b1:=a1 _ hI
   have b2:=a2 i 0 1 hI
   have b2':=a2 i 0 2 hI
   obtain⟨_,b3,b4,_⟩:=a3 h hx _ _ ht
   rw[hL]at b3
   rw[hD]at b4
   clear a1 a2 a3
   rcases ow.2 with ⟨_,q⟩|⟨id,q1,q2,q3,q4⟩
   · omega
   obtain⟨x,hxx⟩:∃x,out[out.length-D]?=some x:=⟨_,Vz (by omega)⟩
   have gx:=MV hxx
   have gd:out.getD (out.length-D) 0=x:=by rw[Vx,hxx];rfl
   obtain⟨v',h',p1,p2,p3,p4,p5,p6⟩:=ow.push hfn (z:=1) (m:=1) (by omega) (by omega) [.int .u8 x] rfl rfl (xK (by omega))
   have x8:=hb x (vE hxx)
   have hxn:Ext h0 h':=fun k c hk=>by
    have:=h0.lt _ _ hk
    rw[p5 k (fun e=>by rw[q1]at e;have:=vm e;omega) (by omega),hx k c hk]
   have ow2:wM 1 h' v' (out++[x]).length (yI (out++[x])):=by rw[AQ,vV];exact p2
   obtain⟨h2,ov',r1,r2,r3,r4,r5⟩:=Hc hn h0 rd i t ht L D hL hD hLb hD1 m (j+1) (out++[x]) h' v' (by omega) (by simp;omega) (by simp;omega) (fun y hy=>by
    rcases VY.1 hy with q|q
    · exact hb y q
    · simp at q;omega) hxn (by omega) (by omega) ow2
   have n1:((j+1:Nat):Int)=(j:Int)+1:=by omega
   have n2:(out.length:Int)-(D:Int)=((out.length-D:Nat):Int):=by omega
   have bl:=K5 out
   rw[Gc,gd]
   refine⟨h2,ov',tX ?_ r1,r2,by omega,r4,r5⟩
   rw[n1]
   subst q1
   clear r5 hb x8 ow2 r1 r2 hx hxn
   generalize yI out=BO at *
   simp (disch:=omega)only[go_sem,wc,AP.f55L0,b1,b2,b2',b3,b4,n2,q2,gx,bl,p1]
theorem D9 {v : AV} {ts : List Tok} (hn : ts.length < 1125899906842624) (h0 : H) (rd : xR 3 h0 v ts.length (wG ts)) : ∀ (q p : List Tok) (out : List Nat) (h : H) (ov : AV), ts = p ++ q → wF out.length q = true → out.length ≤ 8192 → Iu out → Ext h0 h → h0.next ≤ h.floor → h.floor ≤ h.next → wM 1 h ov out.length (yI out) →
 ∃e' h' ov',Lp AP.A [0,4,5] AP.f55L1 [(0,v),(4,ov),(5,.int .i64 p.length)] h=some (.exit 0,e',h')∧look e' 4=ov'∧h'.floor=h.floor∧wM 1 h' ov' (ya q out).length (yI (ya q out))∧(ya q out).length≤8192∧Iu (ya q out)
 | [], p, out, h, ov, hp, hm, hs, hb, hx, hf, hfn, ow => by
   rw[VM]at hp;subst hp
   have ln:=rd.len
   refine⟨[(0,v),(4,ov),(5,.int .i64 ts.length),(13,.bool false)],h,ov,tW ?_,rfl,rfl,ow,hs,hb⟩
   simp (disch:=omega)only[go_sem,wc,AP.f55L1,ln]
 | t :: q, p, out, h, ov, hp, hm, hs, hb, hx, hf, hfn, ow => by
   have ln:=rd.len
   have hlen:ts.length=p.length+(q.length+1):=by rw[hp];simp
   have ht:ts[p.length]?=some t:=by rw[hp];simp
   obtain⟨ad,a1,a2,a3⟩:=rd.DA
   have hI:(0:Int)≤(p.length:Int)∧(p.length:Int)<ts.length:=⟨by omega,by omega⟩
   have b1:=a1 _ hI
   have b2:=a2 p.length 0 1 hI
   have b2':=a2 p.length 0 0 hI
   obtain⟨b3,b4,_,_⟩:=a3 h hx _ _ ht
   rw[wF]at hm
   have pl:p.length<ts.length:=by omega
   cases hst:wW out.length t with
   |none=>rw[hst]at hm;cases hm
   | some s' =>
     rw[hst]at hm
     simp only at hm
     by_cases k:8192<s'
     · rw[if_pos k]at hm;cases hm
     rw[if_neg k]at hm
     unfold wW at hst
     have n1:(((p++[t]).length:Nat):Int)=(p.length:Int)+1:=by simp
     by_cases c0:t.len=0
     · rw[if_pos c0]at hst
       by_cases c:t.lit<0∨255<t.lit∨t.wL≠0
       · rw[if_pos c]at hst;cases hst
       rw[if_neg c]at hst
       obtain rfl:=vm hst
       obtain⟨x,hxl⟩:∃x:Nat,t.lit=x:=VF (by omega)
       have es:wR out t=out++[x]:=by unfold wR;rw[if_pos c0,hxl];rfl
       have hx8:x<256:=by omega
       obtain⟨v',h',p1,p2,p3,p4,p5,p6⟩:=ow.push hfn (z:=1) (m:=1) (by omega) (by omega) [.int .u8 x] rfl rfl (xK (by omega))
       have hxn:Ext h0 h':=fun k c hk=>by
        have:=h0.lt _ _ hk
        rw[p5 k (fun e=>by have:=ow.lt e;omega) (by omega),hx k c hk]
       have ow2:wM 1 h' v' (out++[x]).length (yI (out++[x])):=by rw[AQ,vV];exact p2
       have hx3:Ext h0 h':=hxn
       obtain⟨b3',b4',_,_⟩:=a3 h' hxn _ _ ht
       rw[hxl]at b3
       rw[c0]at b4 b4'
       have wx:=To (n:=x) hx8
       clear a1 a2 a3
       obtain⟨e',h2,ov',r1,r2,r3,r4,r5,r6⟩:=D9 hn h0 rd q (p++[t]) (out++[x]) h' v' (by rw[hp];simp) (by rw[←hm];simp) (by simp;omega) (fun y hy=>by
        rcases VY.1 hy with q|q
        · exact hb y q
        · simp at q;omega) hxn (by omega) (by omega) ow2
       have L0:Lp AP.A [0,4,5,6] AP.f55L0 [(0,v),(4,v'),(5,.int .i64 p.length),(6,.int .i64 0)] h'=some (.exit 2,[(0,v),(4,v'),(5,.int .i64 p.length),(6,.int .i64 0),(37,.bool false)],h'):=by
        refine tW ?_
        simp (disch:=omega)only[go_sem,wc,AP.f55L0,b1,b2,b4']
       rw[ya,es]
       refine⟨e',h2,ov',tX ?_ r1,r2,by omega,r4,r5,r6⟩
       rw[n1]
       clear r1 r2 r4 r5 r6 hm hp hx hxn hx3 hb hst c
       simp (disch:=omega)only[go_sem,wc,AP.f55L1,ln,b1,b2,b2',b3,b4,wx,p1,sX,L0]
     · rw[if_neg c0]at hst
       by_cases c:t.len<3∨258<t.len∨t.wL<1∨32768<t.wL∨(out.length:Int)<t.wL∨t.lit≠0
       · rw[if_pos c]at hst;cases hst
       rw[if_neg c]at hst
       obtain rfl:=vm hst
       obtain⟨L,hL⟩:∃x:Nat,t.len=x:=VF (by omega)
       obtain⟨D,hD⟩:∃x:Nat,t.wL=x:=VF (by omega)
       have es:wR out t=Gc D L out:=by unfold wR;rw[if_neg c0,hL,hD];rfl
       have cl:=Co D L out
       have cb:=Jl D L out hb
       obtain⟨h',v',L0,s1,s2,s3,s4⟩:=Hc hn h0 rd p.length t ht L D hL hD (by omega) (by omega) L 0 out h ov (by omega) (by omega) (by omega) hb hx hf hfn ow
       have L0':Lp AP.A [0,4,5,6] AP.f55L0 [(0,v),(4,ov),(5,.int .i64 p.length),(6,.int .i64 0)] h=_:=L0
       obtain⟨e',h2,ov',r1,r2,r3,r4,r5,r6⟩:=D9 hn h0 rd q (p++[t]) (Gc D L out) h' v' (by rw[hp];simp) (by rw[←hm,cl,hL];simp) (by omega) cb s1 (by omega) s3 s4
       rw[ya,es]
       refine⟨e',h2,ov',tX ?_ r1,r2,by omega,r4,r5,r6⟩
       rw[n1]
       have c0':¬(L:Int)=0:=by omega
       rw[hL]at b4
       clear r1 r2 r4 r5 r6 hm hp hx hb hst c c0 L0 s4 cb es a1 a2 a3
       simp (disch:=omega)only[go_sem,wc,AP.f55L1,ln,b1,b2,b2',b4,sX,L0',c0']
def yy (ts:List Tok):Option ByteArray:=if wF 0 ts=true then some (bytesOf (ya ts []))else none
def Kg:Option ByteArray→AV
 |some t=>.bL [.str t,.int .i64 0]
 |none=>.bL [.str ⟨#[]⟩,.int .i64 500]
theorem Lh (h:H) (v:AV) (ts:List Tok) (hn:ts.length<1125899906842624) (rd:xR 3 h v ts.length (wG ts)):aR AP.A 55 [v] h=some (Kg (yy ts),h)∧∀t,yy ts=some t→t.size≤8192:=by
 have k1:∀g:H,g=h.dQ→aR AP.A 69 [v] g=some (.bool (wF 0 ts),g):=fun g e=>by subst e;exact QG h.dQ v ts hn (rd.mono fun i c q=>q)
 unfold yy
 by_cases hm:wF 0 ts=true
 · rw[if_pos hm]
   have yO:xR 3 h.dQ v ts.length (wG ts):=rd.mono fun i c q=>q
   obtain⟨e',h',ov',r1,r2,r3,r4,r5,r6⟩:=D9 hn h.dQ yO ts [] [] h.dQ .aP rfl hm (by simp) (fun _ h=>by simp at h) (Ext.refl _) (by simp) (by simp) wM.nil
   have r1':Lp AP.A [0,4,5] AP.f55L1 [(0,v),(4,.aP),(5,.int .i64 0)] h.dQ=some (.exit 0,e',h'):=r1
   have b:=Cg r4
   have k:=k1 _ rfl
   rw[hm]at k
   refine⟨?_,fun t ht=> ?_⟩
   · generalize bytesOf (ya ts [])=B at *
     refine uL (fn:=AP.f55) (h2:=h') (e:=[(2,.str B),(3,.int .i64 0)]) rfl rfl rfl ?_ rfl rfl
     clear r1 r4 r5 r6 yO rd k1
     simp (disch:=omega)only[go_sem,wc,AP.f55,k,sX,r1',r2,b]
   · obtain rfl:=vm ht
     rw[xC];omega
 · rw[if_neg hm]
   have k:=k1 _ rfl
   rw[Bool.eq_false_iff.2 hm]at k
   refine⟨?_,fun t ht=>by cases ht⟩
   refine uL (fn:=AP.f55) (h2:=h.dQ) (e:=[(2,.str ⟨#[]⟩),(3,.int .i64 500)]) rfl rfl rfl ?_ rfl rfl
   clear rd k1
   simp (disch:=omega)only[go_sem,wc,AP.f55,k]
def Ag (ts:List Tok):Bool:=match yy ts with
 |some t=>decide (t.size≤300)
 |none=>false
theorem Jt (h:H) (v:AV) (ts:List Tok) (hn:ts.length<1125899906842624) (rd:xR 3 h v ts.length (wG ts)):aR AP.A 27 [v] h=some (.bool (Ag ts),h):=by
 obtain⟨k,kl⟩:=Lh h.dQ v ts hn (rd.mono fun i c q=>q)
 unfold Ag
 cases he:yy ts with
 | none =>
   rw[he]at k
   simp only[Kg]at k
   refine uL (fn:=AP.f27) (h2:=h.dQ) (e:=[(2,.bool false)]) rfl rfl rfl ?_ rfl rfl
   clear rd kl
   simp (disch:=omega)only[go_sem,wc,AP.f27,k]
 | some t =>
   rw[he]at k
   have:=kl t he
   simp only[Kg]at k
   refine uL (fn:=AP.f27) (h2:=h.dQ) (e:=[(2,.bool (decide (t.size≤300)))]) rfl rfl rfl ?_ rfl rfl
   clear rd kl
   by_cases c:t.size≤300
   · simp (disch:=omega)only[go_sem,wc,AP.f27,k,VE c]
   · simp (disch:=omega)only[go_sem,wc,AP.f27,k,VD c]
theorem DF {p q:Prop} [Decidable p] [Decidable q] {α:Type} {a b:α} (h:p↔q):(if p then a else b)=if q then a else b:=by
 by_cases c:p
 · rw[if_pos c,if_pos (h.1 c)]
 · rw[if_neg c,if_neg (fun x=>c (h.2 x))]
def wX (p:Int×Int):List AV:=[.int .i64 p.1,.int .i64 p.2]
theorem yG (p:Int×Int):(wX p).length=2:=rfl
theorem IH {α:Type} {C:α→List AV} {n:Nat} (hC:∀x,(C x).length=n):∀(l:List α) (i:Nat) (x:α),i<l.length→setFrom (l.flatMap C) (i* n) (C x)=(l.set i x).flatMap C
 |[],i,x,h=>by simp at h
 | y :: l, 0, x, h => by
   have:=zY (C y) (C x) [] (l.flatMap C) (by rw[hC,hC])
   simpa using this
 | y :: l, i + 1, x, h => by
   have ih:=IH hC l i x (by simpa using h)
   rw[VJ,List.set_cons_succ,VJ,←ih]
   have e:=A4 hC l
   have:i<l.length:=by simpa using h
   have hi:i* n+n≤l.length* n:=by
    have:=vD n (show i+1≤l.length from this)
    rwa [Nat.succ_mul]at this
   have hs:(i+1)* n=n+i* n:=by rw[Nat.succ_mul];omega
   rw[B6 _ _ _ (by rw[vV,hC,hC,e,hs];omega),B6 _ _ _ (by rw[hC,e];omega),hs,hC]
   rw[List.take_append,List.drop_append,hC]
   rw[vP (by rw[hC];omega),List.drop_of_length_le (by rw[hC];omega)]
   rw[show n+i* n-n=i* n by omega,show n+i* n+n-n=i* n+n by omega]
   simp
def Ac (l:List Int) (i:Nat):Int×Int:=if 1≤l.getD i 0 then(l.getD i 0,wk l (l.getD i 0).toNat+xM (l.take i) (l.getD i 0).toNat)else(0,0)
def v7 (l:List Int):List (Int×Int):=(List.range l.length).map (Ac l)
def xi (l:List Int) (b i:Nat):List (Int×Int):=(List.range l.length).map fun j=>if 1≤l.getD j 0∧(l.getD j 0<b∨(l.getD j 0=b∧j<i))then Ac l j else(0,0)
theorem Ad (l:List Int) (b i:Nat):(xi l b i).length=l.length:=by simp [xi]
theorem E5 {l:List Int} {b i:Nat} (hi:i<l.length) (hb:1≤b) (hl:l.getD i 0=(b:Int)):(xi l b i).set i ((b:Int),wk l b+xM (l.take i) b)=xi l b (i+1):=by
 apply List.ext_getElem?
 intro j
 rw[VV]
 by_cases e:i=j
 · subst e
   rw[if_pos rfl,if_pos (by rw[Ad];exact hi)]
   simp only[xi,vJ,V6 hi,VG]
   rw[if_pos ⟨by omega,.inr ⟨hl,by omega⟩⟩,Ac,if_pos (by omega),hl];rfl
 · rw[if_neg e]
   simp only[xi,vJ]
   by_cases hj:j<l.length
   · rw[V6 hj]
     simp only[VG]
     exact Wj some (DF (by omega))
   · rw[VS (by simp;omega)];rfl
theorem DX {l:List Int} {b i:Nat} (hl:¬l.getD i 0=(b:Int)):xi l b (i+1)=xi l b i:=by
 unfold xi
 refine V7 fun j hj=> ?_
 by_cases e:j=i
 · subst e
   exact DF (by omega)
 · exact DF (by omega)
theorem DY (l:List Int) (b:Nat):xi l (b+1) 0=xi l b l.length:=by
 unfold xi
 refine V7 fun j hj=> ?_
 have hj':j<l.length:=List.mem_range.1 hj
 exact DF (by omega)
theorem E4 {l:List Int} (hr:∀y∈l,0≤y∧y<16):xi l 16 0=v7 l:=by
 unfold xi v7
 refine V7 fun j hj=> ?_
 have hj':j<l.length:=List.mem_range.1 hj
 have hm:=hr (l.getD j 0) (by rw[Vx,Vz hj'];simp)
 by_cases c:1≤l.getD j 0
 · rw[if_pos ⟨c,.inl (by omega)⟩]
 · rw[if_neg (fun q=>c q.1),Ac,if_neg c]
theorem DZ (l:List Int):xi l 1 0=List.replicate l.length (0,0):=by
 unfold xi
 have:(List.range l.length).map (fun j=>if 1≤l.getD j 0∧(l.getD j 0<(1:Nat)∨(l.getD j 0=(1:Nat)∧j<0))then Ac l j else((0:Int),(0:Int)))=(List.range l.length).map (fun _=>((0:Int),(0:Int))):=by
  refine V7 fun j hj=> ?_
  rw[if_neg (by omega)]
 rw[this,List.map_const',List.length_range]
theorem BD {l:List Int} {i:Nat} (hi:i<l.length) (b:Nat) (hb:1≤b):xM (l.take (i+1)) b=xM (l.take i) b+if l.getD i 0=(b:Int)then 1 else 0:=by
 have e:l.take (i+1)=l.take i++[l.getD i 0]:=by
  rw[List.take_add_one,Vz hi,Vx,Vz hi];rfl
 rw[e,A3]
 congr 1
 by_cases c:l.getD i 0=(b:Int)
 · rw[if_pos ⟨by omega,c⟩,if_pos c]
 · rw[if_neg (fun q=>c q.2),if_neg c]
theorem D6 {x : AV} {l : List Int} (hl : l.length < 1000) (h0 : H) (rd : Rd h0 x (ints l)) (id b : Nat) (hid : h0.next ≤ id) (hb1 : 1 ≤ b) (hb : b ≤ 15) : ∀ (m i : Nat) (h : H), i + m = l.length → Ext h0 h → h.floor ≤ id → h.get id = some ((xi l b i).flatMap wX) →
 ∃h',Lp AP.A [0,5,6,7,8] AP.f34L0 [(0,x),(5,.aF id 0 l.length 2),(6,.int .i64 (wk l b+xM (l.take i) b)),(7,.int .i64 b),(8,.int .i64 i)] h=some (.exit 2,[(0,x),(5,.aF id 0 l.length 2),(6,.int .i64 (wk l b+xM l b)),(7,.int .i64 b),(8,.int .i64 l.length),(30,.bool false)],h')∧Ext h0 h'∧h'.floor=h.floor∧h'.get id=some ((xi l b l.length).flatMap wX)
 | 0, i, h, hi, hx, hf, hg => by
   obtain rfl:i=l.length:=by omega
   have ln:=rd.len
   rw[qg]at ln
   simp only[I]at ln
   rw[List.take_length]
   refine⟨h,tW ?_,hx,rfl,hg⟩
   simp (disch:=omega)only[go_sem,wc,AP.f34L0,ln]
 | m + 1, i, h, hi, hx, hf, hg => by
   have ln:=rd.len
   rw[qg]at ln
   simp only[I]at ln
   have hil:i<l.length:=by omega
   obtain⟨ad,a1,a2⟩:=rd.xj
   have b1:=a1 i ⟨by omega,by omega⟩
   have lg:l[i]?=some (l.getD i 0):=by rw[Vx,Vz hil];rfl
   have b2:=a2 h hx i _ lg
   have n1:((i+1:Nat):Int)=(i:Int)+1:=by omega
   have ct:=BD hil b hb1
   have fb:=Ah (l:=l) (by omega) b
   have pw:=Ar hb
   have cl:=AZ (l.take i) b
   have tl:=List.length_take_le i l
   generalize hy:l.getD i 0=y at *
   by_cases c:y=(b:Int)
   · have st:uN h id (i* 2) 2 [.int .i64 (b:Int),.int .i64 (wk l b+xM (l.take i) b)] (some ((xi l b i).flatMap wX))=some (h.set id ((xi l b (i+1)).flatMap wX)):=by
      rw[JP,←E5 hil hb1 (hy.trans c),←IH yG _ _ _ (by rw[Ad];exact hil)]
      have:=A4 yG (xi l b i)
      rw[Ad]at this
      simp only[this,hf,Vy,VC,decide_true,AV.aC,AV.sc,Bool.and_true,Bool.true_and,show i* 2+2≤l.length* 2 by omega]
      rfl
     rw[if_pos c]at ct
     have g2:(h.set id ((xi l b (i+1)).flatMap wX)).get id=some ((xi l b (i+1)).flatMap wX):=by rw[wu rfl,hg];rfl
     obtain⟨h',r1,r2,r3,r4⟩:=D6 hl h0 rd id b hid hb1 hb m (i+1) _ (by omega) (hx.set hid _) (by simpa using hf) g2
     have e1:wk l b+(xM (l.take i) b:Int)+1=wk l b+(xM (l.take (i+1)) b:Nat):=by rw[ct];omega
     refine⟨h',tX ?_ r1,r2,by rw[r3];simp,r4⟩
     rw[←e1,n1]
     subst c
     clear r1 r2 r3 r4 g2 ct e1 hx
     generalize wk l b=F at *
     generalize xM (l.take i) b=K at *
     generalize (xi l b i).flatMap wX=CS at *
     generalize (xi l b (i+1)).flatMap wX=CS2 at *
     simp (disch:=omega)only[go_sem,wc,AP.f34L0,ln,b1,b2,hg,st]
   · rw[if_neg c,Nat.add_zero]at ct
     obtain⟨h',r1,r2,r3,r4⟩:=D6 hl h0 rd id b hid hb1 hb m (i+1) h (by omega) hx hf (by rw[DX (fun q=>c (hy.symm.trans q))];exact hg)
     rw[ct]at r1
     refine⟨h',tX ?_ r1,r2,r3,r4⟩
     rw[n1]
     generalize wk l b=F at *
     generalize xM (l.take i) b=K at *
     simp (disch:=omega)only[go_sem,wc,AP.f34L0,ln,b1,b2]
theorem Hd {x:AV} {l:List Int} (hl:l.length<1000) (h0:H) (rd:Rd h0 x (ints l)) (id:Nat) (hid:h0.next≤id):∀(m b:Nat) (h:H) (F:Int),b+m=16→1≤b→F+F=wk l b→Ext h0 h→h.floor≤id→h.get id=some ((xi l b 0).flatMap wX)→
 ∃e' h',Lp AP.A [0,5,6,7] AP.f34L1 [(0,x),(5,.aF id 0 l.length 2),(6,.int .i64 F),(7,.int .i64 b)] h=some (.exit 0,e',h')∧look e' 5=.aF id 0 l.length 2∧h'.floor=h.floor∧h'.get id=some ((xi l 16 0).flatMap wX)
 | 0, b, h, F, hb, hb1, hF, hx, hf, hg => by
   obtain rfl:b=16:=by omega
   refine⟨[(0,x),(5,.aF id 0 l.length 2),(6,.int .i64 F),(7,.int .i64 16),(22,.bool false)],h,tW ?_,rfl,rfl,hg⟩
   simp (disch:=omega)only[go_sem,wc,AP.f34L1]
 | m + 1, b, h, F, hb, hb1, hF, hx, hf, hg => by
   obtain⟨h1,q1,q2,q3,q4⟩:=D6 hl h0 rd id b hid hb1 (by omega) l.length 0 h (by omega) hx hf hg
   rw[←DY]at q4
   have c0:xM (l.take 0) b=0:=by rw[Wl];exact Ji b
   rw[c0]at q1
   have fb:=Ah (l:=l) (by omega) b
   have pw:=Ar (m:=b) (by omega)
   have q1':Lp AP.A [0,5,6,7,8] AP.f34L0 [(0,x),(5,.aF id 0 l.length 2),(6,.int .i64 (wk l b)),(7,.int .i64 b),(8,.int .i64 0)] h=some (.exit 2,[(0,x),(5,.aF id 0 l.length 2),(6,.int .i64 (wk l b+xM l b)),(7,.int .i64 b),(8,.int .i64 l.length),(30,.bool false)],h1):=by
    have e:(wk l b+((0:Nat):Int))=wk l b:=by omega
    rw[e]at q1;exact q1
   obtain⟨e',h',r1,r2,r3,r4⟩:=Hd hl h0 rd id hid m (b+1) h1 (wk l b+xM l b) (by omega) (by omega) (by rw[wk];omega) q2 (by omega) q4
   have n1:((b+1:Nat):Int)=(b:Int)+1:=by omega
   have n2:2* F=wk l b:=by omega
   have hFb:0≤F∧F<100000000000:=by omega
   refine⟨e',h',tX ?_ r1,r2,by omega,r4⟩
   rw[n1]
   clear q1 r1 r2 r3 r4 q4 hx rd
   generalize wk l b=G at *
   simp (disch:=omega)only[go_sem,wc,AP.f34L1,n2,sX,q1']
theorem zJ:∀E:List (Int×Int),E.flatMap wX=ints (E.flatMap fun p=>[p.1,p.2])
 |[]=>rfl
 |p::E=>by rw[VJ,VJ,qf,zJ E];rfl
theorem Bg:∀n,yo n [.int .i64 0,.int .i64 0]=(List.replicate n ((0:Int),(0:Int))).flatMap wX
 |0=>rfl
 | n + 1 => by
   have:=Bg n
   unfold yo at *
   rw[dJ,this,List.replicate_succ,VJ];rfl
def zh (l:List Int):AV:=yx 2 l.length ((v7 l).flatMap wX)
theorem Ck (h:H) (x:AV) (l:List Int) (h1:1≤l.length) (hl:l.length<1000) (rd:Rd h x (ints l)) (hc:wH l=0∨wH l=302):aR AP.A 34 [x] h=some (.bL [zh l,.int .i64 0],h):=by
 have k:=K6 h.dQ x l (by omega) (rd.mono (wo h))
 simp only[I]at k
 have hr:∀y∈l,0≤y∧y<16:=by
  refine Aq ?_
  unfold wH at hc
  by_cases q:Ap l=false
  · rw[if_pos q]at hc;omega
  · simpa using q
 have yO:Rd h.dQ x (ints l):=rd.mono (wo h)
 obtain⟨g,eg⟩:∃g,g=h.dQ.alloc (yo l.length [.int .i64 0,.int .i64 0]):=⟨_,rfl⟩
 have hn:h.dQ.next=h.next:=rfl
 have ex:Ext h.dQ g:=by rw[eg];exact(Ext.refl _).alloc _
 have gg:g.get h.next=some ((xi l 1 0).flatMap wX):=by rw[eg,wh (by simp),Bg,DZ]
 obtain⟨e',h',r1,r2,r3,r4⟩:=Hd hl h.dQ yO h.next (by simp) 15 1 g 0 (by omega) (by omega) (by simp [wk,xM]) ex (by rw[eg];simp) gg
 have r1':Lp AP.A [0,5,6,7] AP.f34L1 [(0,x),(5,.aF h.next 0 l.length 2),(6,.int .i64 0),(7,.int .i64 1)] g=some (.exit 0,e',h'):=r1
 have ln:=rd.len
 rw[qg]at ln
 simp only[I]at ln
 rw[E4 hr]at r4
 have ce:(v7 l).length=l.length:=by simp [v7]
 have ow:wM 2 h' (.aF h.next 0 l.length 2) l.length ((v7 l).flatMap wX):=⟨by rw[A4 yG,ce],.inr ⟨h.next,rfl,r4,by rw[r3,eg];simp,by omega⟩⟩
 have kk:(¬wH l=0∧¬wH l=302)=False:=by simp;omega
 refine uL (fn:=AP.f34) (h2:=h') (e:=[(2,.aF h.next 0 l.length 2),(3,.int .i64 0)]) (vs:=[.aF h.next 0 l.length 2,.int .i64 0]) rfl rfl rfl ?_ rfl ?_
 · clear r1 r4 ow rd yO hr kk gg ex
   rcases hc with q|q
   · rw[q]at k
     simp (disch:=omega)only[go_sem,wc,AP.f34,k,ln,←eg,hn,sX,r1',r2]
   · rw[q]at k
     simp (disch:=omega)only[go_sem,wc,AP.f34,k,ln,←eg,hn,sX,r1',r2]
 · have o':=ow
   rw[zJ]at o'
   have s1:=o'.yj (fl:=h.next) (m:=13) (t:=true) (by rw[r3,eg];simp)
   show(fF (snap h'.get h.next 15 true) [.aF h.next 0 l.length 2,.int .i64 0]).bind _=_
   simp only[fF,s1,vu]
   rw[←zJ];rfl
def wK (l:List Int) (least:Nat):Nat→Nat
 |0=>least
 |i+1=>if i+1≤least then least else if 0<l.getD i 0 then i+1 else wK l least i
theorem FZ {x : AV} {l : List Int} (hl : l.length < 1000) (h : H) (rd : Rd h x (ints l)) (k : Nat) (hk : k < 1000) : ∀ i : Nat, i ≤ l.length →
 (∃e',Lp AP.A [0,1,5] AP.f31L0 [(0,x),(1,.int .i64 k),(5,.int .i64 i)] h=some (.exit 0,e',h)∧look e' 1=.int .i64 k∧wK l k i=k)∨
 Lp AP.A [0,1,5] AP.f31L0 [(0,x),(1,.int .i64 k),(5,.int .i64 i)] h=some (.ret,[(4,.int .i64 (wK l k i:Nat))],h)
 | 0, hi => by
   refine .inl ⟨[(0,x),(1,.int .i64 k),(5,.int .i64 0),(10,.bool false)],tW ?_,rfl,rfl⟩
   simp (disch:=omega)only[go_sem,wc,AP.f31L0]
 | i + 1, hi => by
   by_cases c:i+1≤k
   · refine .inl ⟨[(0,x),(1,.int .i64 k),(5,.int .i64 (i+1:Nat)),(10,.bool false)],tW ?_,rfl,by rw[wK,if_pos c]⟩
     simp (disch:=omega)only[go_sem,wc,AP.f31L0]
   · obtain⟨ad,a1,a2⟩:=rd.xj
     have b1:=a1 i ⟨by omega,by omega⟩
     have lg:l[i]?=some (l.getD i 0):=by rw[Vx,Vz (by omega)];rfl
     have b2:=a2 h (Ext.refl h) i _ lg
     have n1:((i+1:Nat):Int)-1=(i:Int):=by omega
     rw[wK,if_neg c]
     generalize hy:l.getD i 0=y at *
     by_cases c2:0<y
     · rw[if_pos c2]
       refine .inr (uz ?_)
       simp (disch:=omega)only[go_sem,wc,AP.f31L0,n1,b1,b2]
     · rw[if_neg c2]
       have step:aL (aR AP.A) bp AP.f31L0 (ay [(0,x),(1,.int .i64 k),(5,.int .i64 (i+1:Nat))] [0,1,5]) h=some (.normal,[(0,x),(1,.int .i64 k),(5,.int .i64 i)],h):=by
        simp (disch:=omega)only[go_sem,wc,AP.f31L0,n1,b1,b2]
       rcases FZ hl h rd k hk i (by omega)with ⟨e',r1,r2,r3⟩|r1
       · exact .inl ⟨e',tX step r1,r2,r3⟩
       · exact .inr (tX step r1)
theorem Jd (h:H) (x:AV) (l:List Int) (hl:l.length<1000) (rd:Rd h x (ints l)) (k:Nat) (hk:k<1000):aR AP.A 31 [x,.int .i64 k] h=some (.int .i64 (wK l k l.length:Nat),h):=by
 have ln:=rd.len
 rw[qg]at ln
 simp only[I]at ln
 have yO:Rd h.dQ x (ints l):=rd.mono (wo h)
 rcases FZ hl h.dQ yO k hk l.length (vB _)with ⟨e',r1,r2,r3⟩|r1
 · rw[r3]
   refine uL (fn:=AP.f31) (h2:=h.dQ) (e:=[(4,.int .i64 k)]) rfl rfl rfl ?_ rfl rfl
   simp (disch:=omega)only[go_sem,wc,AP.f31,ln,sX,r1,r2]
 · refine uL (fn:=AP.f31) (h2:=h.dQ) (e:=[(4,.int .i64 (wK l k l.length:Nat))]) rfl rfl rfl ?_ rfl rfl
   generalize wK l k l.length=U at *
   simp (disch:=omega)only[go_sem,wc,AP.f31,ln,sX,r1]
structure WX (h0 h:H) (w:Nat) (bs:List Nat) (ov:AV):Prop where
 wr:Wr h w bs ov
 ext:Ext h0 h
 lw:h0.next≤w
 ln:h0.next≤h.next
 lo:∀j,ov.id?=some j→h0.next≤j
theorem WX.step {h0 h h':H} {w:Nat} {bs bs':List Nat} {ov ov':AV} (x:WX h0 h w bs ov) (wr:Wr h' w bs' ov') (f:Dz h w ov h' ov'):WX h0 h' w bs' ov':=
 ⟨wr,fun i c hi=>by
  have:=h0.lt _ _ hi
  have:=x.ln
  have:=x.lw
  rw[f.xc i (by omega) (by omega) (fun q=>by have:=x.lo i q;omega),x.ext i c hi],x.lw,by have:=f.next;have:=x.ln;omega,fun j hj=>by
  rcases f.ids j hj with q|q
  · exact x.lo j q
  · have:=x.ln;omega⟩
theorem WX.turn {h0 h h':H} {w:Nat} {bs:List Nat} {ov:AV} (x:WX h0 h w bs ov) (hf:h'.floor=h.floor) (hn:h.next≤h'.next) (hk:∀i,i<h.next→h'.get i=h.get i):WX h0 h' w bs ov:=
 ⟨⟨by rw [hk w (h.lt _ _ x.wr.get), x.wr.get], x.wr.own.mono hf fun i q => hk i (x.wr.own.lt q).2, by rw [hf]; exact x.wr.fl, by rw [hf]; exact vT x.wr.GO hn, x.wr.ne, x.wr.ES⟩,
   fun i c hi=>by have:=h0.lt _ _ hi;have:=x.ln;rw[hk i (by omega),x.ext i c hi],x.lw,vT x.ln hn,x.lo⟩
def BH (E:List (Int×Int)) (s:Nat):Prop:=∃n v:Nat,E[s]?=some ((n:Int),(v:Int))∧1≤n∧n≤15∧v<2^n
def wy (E:List (Int×Int)) (s:Nat):List Nat:=yC (E.getD s (0,0)).2.toNat (E.getD s (0,0)).1.toNat
theorem BH.bits {E:List (Int×Int)} {s:Nat} (o:BH E s):∃n v:Nat,E[s]?=some ((n:Int),(v:Int))∧1≤n∧n≤15∧v<2^n∧wy E s=yC v n:=by
 obtain⟨n,v,h,h1,h2,h3⟩:=o
 refine⟨n,v,h,h1,h2,h3, ?_⟩
 unfold wy
 rw[Vx,h];rfl
theorem BH.lt {E:List (Int×Int)} {s:Nat} (o:BH E s):s<E.length:=by
 obtain⟨n,v,h,_⟩:=o
 exact(vt.1 h).1
theorem xR.FE {h:H} {v:AV} {E:List (Int×Int)} (r:xR 2 h v E.length (E.flatMap wX)):∃ad:Int→AV,
 (∀i:Int,0≤i∧i<E.length→fP 2 v (.int .i64 i)=some (ad i))∧
 ∀g:H,Ext h g→∀(i:Nat) (p:Int×Int),E[i]?=some p→bP true 2 (ad i) g=some (.agg [.int .i64 p.1,.int .i64 p.2]):=by
 obtain⟨ad,a1,a2,_,a3⟩:=r.at_
 refine⟨fun i=>ad i 0,a1,fun g hg i t ht=> ?_⟩
 obtain⟨b1,b2⟩:=a3 g hg
 have hi:i<E.length:=(vt.1 ht).1
 have hI:(0:Int)≤(i:Int)∧(i:Int)<E.length:=⟨by omega,by omega⟩
 have ti:((i:Int)).toNat=i:=by omega
 rw[b2 i hI,ti,Gf yG ht];rfl
def wS (E D:List (Int×Int)) (t:Tok):List Nat:=
 if t.len=0 then wy E t.lit.toNat
 else wy E (xB t.len.toNat)++(wA (y9 t.len.toNat) (yP t.len.toNat)++(wy D (xG t.wL.toNat)++wA (zj t.wL.toNat) (yT t.wL.toNat)))
def xp (E D:List (Int×Int)) (ts:List Tok):List Nat:=ts.flatMap (wS E D)
def HM (E D:List (Int×Int)) (t:Tok):Prop:=
 (t.len=0∧0≤t.lit∧BH E t.lit.toNat)∨(3≤t.len∧t.len≤258∧1≤t.wL∧t.wL≤32768∧BH E (xB t.len.toNat)∧BH D (xG t.wL.toNat))
theorem DI {k:Nat} (h1:3≤k) (h2:k≤258):yP k≤5∧y9 k<2^yP k:=by
 obtain⟨a1,a2,a3,a4⟩:=yV h1 h2
 obtain⟨a,b,hab⟩:=AE a1 a2
 have:=Ct hab
 refine⟨by unfold yP;rw[hab];show b≤5;omega, ?_⟩
 unfold y9 yP;omega
theorem DE {k:Nat} (h1:1≤k) (h2:k≤32768):yT k≤13∧zj k<2^yT k:=by
 obtain⟨a2,a3,a4⟩:=yU h1 h2
 obtain⟨a,b,hab⟩:=zU a2
 have:=Bp hab
 refine⟨by unfold yT;rw[hab];show b≤13;omega, ?_⟩
 unfold zj yT;omega
theorem Bl {E D:List (Int×Int)} {t:Tok} (o:HM E D t):(wS E D t).length≤48:=by
 rcases o with ⟨h1,h2,h3⟩|⟨h1,h2,h3,h4,h5,h6⟩
 · obtain⟨n,v,_,q1,q2,q3,q4⟩:=h3.bits
   rw[wS,if_pos h1,q4,xm];omega
 · obtain⟨n,v,_,q1,q2,q3,q4⟩:=h5.bits
   obtain⟨n',v',_,q1',q2',q3',q4'⟩:=h6.bits
   have l:=DI (k:=t.len.toNat) (by omega) (by omega)
   have d:=DE (k:=t.wL.toNat) (by omega) (by omega)
   rw[wS,if_neg (by omega),q4,q4']
   simp only[vV,xm,wA,wE];omega
theorem KO {v lv dv:AV} {ts:List Tok} {E D:List (Int×Int)} (hn:ts.length<1000000) (h0:H) (rd:xR 3 h0 v ts.length (wG ts)) (rl:xR 2 h0 lv E.length (E.flatMap wX)) (rx:xR 2 h0 dv D.length (D.flatMap wX)) (w i:Nat) (t:Tok) (ht:ts[i]?=some t) (o:HM E D t) (h:H) (bs:List Nat) (ov:AV) (x:WX h0 h w bs ov) (hb:bs.length+48≤65000):
 ∃h' ov',aL (aR AP.A) bp AP.f36L0 (ay [(0,.aE w 0),(1,v),(2,lv),(3,dv),(8,.int .i64 i)] [0,1,2,3,8]) h=some (.normal,[(0,.aE w 0),(1,v),(2,lv),(3,dv),(8,.int .i64 (i+1:Nat))],h')∧WX h0 h' w (bs++wS E D t) ov':=by
 have ln:=rd.len
 obtain⟨ad,a1,a2,a3⟩:=rd.DA
 have hi:i<ts.length:=(vt.1 ht).1
 have hI:(0:Int)≤(i:Int)∧(i:Int)<ts.length:=⟨by omega,by omega⟩
 have b1:=a1 _ hI
 have b2:=a2 i 0 1 hI
 have b20:=a2 i 0 0 hI
 have b22:=a2 i 0 2 hI
 obtain⟨b3,b4,b5,_⟩:=a3 h x.ext _ _ ht
 obtain⟨le,l1,l2⟩:=rl.FE
 have n1:((i+1:Nat):Int)=(i:Int)+1:=by omega
 rcases o with ⟨c0,h2,h3⟩|⟨h1,h2,h3,h4,h5,h6⟩
 · obtain⟨y,hy⟩:∃y:Nat,t.lit=y:=VF h2
   have yt:t.lit.toNat=y:=by omega
   have yl:=h3.lt
   obtain⟨n,c,q0,q1,q2,q3,q4⟩:=h3.bits
   rw[yt]at q0 q4 yl
   have e1:=l1 y ⟨by omega,by omega⟩
   have e2:=l2 h x.ext _ _ q0
   obtain⟨h',ov',k1,k2,k3⟩:=CJ x.wr c n q1 q2 q3 (by omega)
   rw[hy]at b3
   rw[c0]at b4
   refine⟨h',ov', ?_, ?_⟩
   · rw[n1]
     clear rd rl rx a1 a2 a3 l1 l2 x k2 k3 q4 b5 h3 ht q3
     simp (disch:=omega)only[go_sem,wc,AP.f36L0,ln,b1,b2,b20,b3,b4,e1,e2,k1]
   · rw[wS,if_pos c0,yt,q4]
     exact x.step k2 k3
 · obtain⟨L,hL⟩:∃y:Nat,t.len=y:=VF (by omega)
   obtain⟨K,hK⟩:∃y:Nat,t.wL=y:=VF (by omega)
   have Lt:t.len.toNat=L:=by omega
   have Kt:t.wL.toNat=K:=by omega
   rw[Lt]at h5
   rw[Kt]at h6
   have lb:=DI (k:=L) (by omega) (by omega)
   have db:=DE (k:=K) (by omega) (by omega)
   obtain⟨de,d1,d2⟩:=rx.FE
   have ll:=h5.lt
   have dl:=h6.lt
   obtain⟨n,c,q0,q1,q2,q3,q4⟩:=h5.bits
   obtain⟨n',c',p0,p1,p2,p3,p4⟩:=h6.bits
   have kl:∀g:H,aR AP.A 28 [.int .i64 L] g=_:=fun g=>HG g L (by omega) (by omega)
   have kd:∀g:H,aR AP.A 29 [.int .i64 K] g=_:=fun g=>Lf g K (by omega) (by omega)
   have e1:=l1 (xB L) ⟨by omega,by omega⟩
   have f1:=d1 (xG K) ⟨by omega,by omega⟩
   obtain⟨h1',eh1⟩:∃g,g=(h.alloc [.int .i64 0,.int .i64 0,.int .i64 0]).set h.next [.int .i64 (xB L:Nat),.int .i64 (yP L:Nat),.int .i64 (y9 L:Nat)]:=⟨_,rfl⟩
   have x1:WX h0 h1' w bs ov:=x.turn (by rw[eh1];simp) (by rw[eh1];simp) fun j hj=>by rw[eh1,vX (by omega),v8 (by omega)]
   have g1:h1'.get h.next=some [.int .i64 (xB L:Nat),.int .i64 (yP L:Nat),.int .i64 (y9 L:Nat)]:=by rw[eh1,wu rfl,wh rfl];rfl
   have nx1:h1'.next=h.next+1:=by rw[eh1];simp
   have e2:=l2 h1' x1.ext _ _ q0
   obtain⟨h2',o2,k1,k2,k3⟩:=CJ x1.wr c n q1 q2 q3 (by omega)
   have x2:=x1.step k2 k3
   have hw:=h.lt _ _ x.wr.get
   have hon:ov.id?≠some h.next:=fun q=>by have:=(x.wr.own.lt q).2;omega
   have g2:h2'.get h.next=_:=(k3.xc h.next (by omega) (by omega) hon).trans g1
   obtain⟨h3',o3,k4,k5,k6⟩:=zR x2.wr (y9 L) (yP L) (by omega) lb.2 (by simp [xm];omega)
   have x3:=x2.step k5 k6
   have nx3:h1'.next≤h3'.next:=vT k3.next k6.next
   obtain⟨_,_,b5',_⟩:=a3 h3' x3.ext _ _ ht
   obtain⟨h4,eh4⟩:∃g,g=(h3'.alloc [.int .i64 0,.int .i64 0,.int .i64 0]).set h3'.next [.int .i64 (xG K:Nat),.int .i64 (yT K:Nat),.int .i64 (zj K:Nat)]:=⟨_,rfl⟩
   have x4:WX h0 h4 w _ o3:=x3.turn (h':=h4) (by rw[eh4];simp) (by rw[eh4];simp) fun j hj=>by rw[eh4,vX (by omega),v8 (by omega)]
   have g4:h4.get h3'.next=some [.int .i64 (xG K:Nat),.int .i64 (yT K:Nat),.int .i64 (zj K:Nat)]:=by rw[eh4,wu rfl,wh rfl];rfl
   have f2:=d2 h4 x4.ext _ _ p0
   obtain⟨h5',o5,m1,m2,m3⟩:=CJ x4.wr c' n' p1 p2 p3 (by simp [xm,wA,wE];omega)
   have x5:=x4.step m2 m3
   have hw3:=h3'.lt _ _ x3.wr.get
   have hon3:o3.id?≠some h3'.next:=fun q=>by have:=(x3.wr.own.lt q).2;omega
   have g5:h5'.get h3'.next=_:=(m3.xc h3'.next (by rw[eh4];simp) (by omega) hon3).trans g4
   obtain⟨h6',o6,m4,m5,m6⟩:=zR x5.wr (zj K) (yT K) (by omega) db.2 (by simp [xm,wA,wE];omega)
   have x6:=x5.step m5 m6
   rw[hL]at b4
   rw[hK]at b5'
   have fl1:h.floor≤h.next:=x.wr.GO
   have fl3:h3'.floor≤h3'.next:=x3.wr.GO
   have cL:¬(L:Int)=0:=by omega
   refine⟨h6',o6, ?_, ?_⟩
   · rw[n1]
     clear rd rl rx a1 a2 a3 l1 l2 d1 d2 x x1 x2 x3 x4 x5 x6 k2 k3 k5 k6 m2 m3 m5 m6 q4 p4 b5 h5 h6 ht b3 hon hon3 lb db p3 q3 hI hb
     generalize xB L=S at *
     generalize yP L=B at *
     generalize y9 L=V at *
     generalize xG K=S' at *
     generalize yT K=B' at *
     generalize zj K=V' at *
     simp (disch:=omega)only[go_sem,wc,AP.f36L0,ln,b1,b2,b22,b4,b5',e1,e2,f1,f2,kl,kd,cL,←eh1,←eh4,g1,g2,g4,g5,k1,k4,m1,m4]
   · rw[wS,if_neg (by omega),Lt,Kt,q4,p4]
     rw[VH,VH,VH]at x6
     exact x6
theorem BB {E D:List (Int×Int)}:∀{ts:List Tok},(∀t∈ts,HM E D t)→(xp E D ts).length≤48* ts.length
 |[],_=>by simp [xp]
 | t :: ts, h => by
   have a:=Bl (h t (by simp))
   have b:=BB (E:=E) (D:=D) (ts:=ts) fun u hu=>h u (by simp [hu])
   unfold xp at *
   simp only[VJ,vV,Vy];omega
theorem FY {v lv dv:AV} {ts:List Tok} {E D:List (Int×Int)} (hn:ts.length<1000000) (h0:H) (rd:xR 3 h0 v ts.length (wG ts)) (rl:xR 2 h0 lv E.length (E.flatMap wX)) (rx:xR 2 h0 dv D.length (D.flatMap wX)) (ok:∀t∈ts,HM E D t) (w:Nat):∀(q p:List Tok) (bs:List Nat) (h:H) (ov:AV),ts=p++q→WX h0 h w bs ov→bs.length+48* q.length≤65000→
 ∃e' h' ov',Lp AP.A [0,1,2,3,8] AP.f36L0 [(0,.aE w 0),(1,v),(2,lv),(3,dv),(8,.int .i64 p.length)] h=some (.exit 0,e',h')∧look e' 0=.aE w 0∧look e' 2=lv∧WX h0 h' w (bs++xp E D q) ov'
 | [], p, bs, h, ov, hp, x, hb => by
   rw[VM]at hp;subst hp
   have ln:=rd.len
   refine⟨[(0,.aE w 0),(1,v),(2,lv),(3,dv),(8,.int .i64 ts.length),(16,.bool false)],h,ov,tW ?_,rfl,rfl,by simpa [xp]using x⟩
   simp (disch:=omega)only[go_sem,wc,AP.f36L0,ln]
 | t :: q, p, bs, h, ov, hp, x, hb => by
   have ht:ts[p.length]?=some t:=by rw[hp];simp
   have o:=ok t (vE ht)
   have tl:=Bl o
   simp only[Vy]at hb
   obtain⟨h1,o1,s1,x1⟩:=KO hn h0 rd rl rx w p.length t ht o h bs ov x (by omega)
   have hlen:(((p++[t]).length:Nat):Int)=((p.length+1:Nat):Int):=by simp
   obtain⟨e',h',ov',r1,r2,r3,r4⟩:=FY hn h0 rd rl rx ok w q (p++[t]) _ h1 o1 (by rw[hp];simp) x1 (by simp;omega)
   rw[hlen]at r1
   refine⟨e',h',ov',tX s1 r1,r2,r3, ?_⟩
   have e:bs++xp E D (t::q)=bs++wS E D t++xp E D q:=by unfold xp;rw[VJ,VH]
   rw[e];exact r4
theorem MG {v lv dv:AV} {ts:List Tok} {E D:List (Int×Int)} (hn:ts.length<1000000) (h0:H) (rd:xR 3 h0 v ts.length (wG ts)) (rl:xR 2 h0 lv E.length (E.flatMap wX)) (rx:xR 2 h0 dv D.length (D.flatMap wX)) (ok:∀t∈ts,HM E D t) (o256:BH E 256) (w:Nat) (bs:List Nat) (h:H) (ov:AV) (x:WX h0 h w bs ov) (hb:bs.length+48* ts.length≤65000):
 ∃h' ov',aR AP.A 36 [.aE w 0,v,lv,dv] h=some (.bL [],h')∧WX h0 h' w (bs++(xp E D ts++wy E 256)) ov':=by
 obtain⟨e',h1,o1,r1,r2,r3,x1⟩:=FY hn h0 rd rl rx ok w ts [] bs h ov rfl x hb
 have r1':Lp AP.A [0,1,2,3,8] AP.f36L0 [(0,.aE w 0),(1,v),(2,lv),(3,dv),(8,.int .i64 0)] h=some (.exit 0,e',h1):=r1
 obtain⟨n,c,q0,q1,q2,q3,q4⟩:=o256.bits
 obtain⟨le,l1,l2⟩:=rl.FE
 have ll:=o256.lt
 have e1:=l1 256 ⟨by omega,by omega⟩
 have e2:bP true 2 (le 256) h1=_:=l2 h1 x1.ext _ _ q0
 have tb:=BB ok
 obtain⟨h',ov',k1,k2,k3⟩:=CJ x1.wr c n q1 q2 q3 (by rw[vV];omega)
 have x2:=x1.step k2 k3
 rw[←q4,VH]at x2
 obtain⟨e2',he⟩:∃e2',aL (aR AP.A) bp AP.f36.body (params 0 [.aE w 0,v,lv,dv]) h=some (.normal,e2',h'):=by
  clear rd rl rx x x1 k2 k3 x2 q4 l1 l2 ok o256 r1
  refine⟨?_, ?_⟩
  rotate_left
  · simp (disch:=omega)only[go_sem,wc,AP.f36,sX,r1',r2,r3,e1,e2,k1]
    rfl
 exact⟨h',ov',xb (fn:=AP.f36) (e:=e2') (vs:=[]) rfl rfl rfl he rfl,x2⟩
structure Ro (h:H) (f:Nat) (vs:List AV) (cs:List (List AV)):Prop where
 get:h.get f=some vs
 own:∀(i:Nat) (v:AV) (c:List AV),vs[i]?=some v→cs[i]?=some c→wM 1 h v c.length c
 len:vs.length=cs.length
 ne:∀(i:Nat) (v:AV),vs[i]?=some v→v.id?≠some f
 Jo:∀(i j:Nat) (v u:AV),i≠j→vs[i]?=some v→vs[j]?=some u→∀id,v.id?=some id→u.id?≠some id
 fl:h.floor≤f
 GO:h.floor≤h.next
structure Lo (h h':H):Prop where
 floor:h'.floor=h.floor
 next:h.next≤h'.next
 xc:∀i,i<h.floor→h'.get i=h.get i
theorem Lo.refl (h:H):Lo h h:=⟨rfl,vB _,fun _ _=>rfl⟩
theorem Lo.trans {a b c:H} (x:Lo a b) (y:Lo b c):Lo a c:=⟨y.floor.trans x.floor,vT x.next y.next,fun i hi=>(y.xc i (by rw[x.floor];exact hi)).trans (x.xc i hi)⟩
theorem Ext.lo {h0 a b:H} (x:Ext h0 a) (y:Lo a b) (hf:a.floor=h0.next):Ext h0 b:=fun i c hi=>by
 rw[y.xc i (by rw[hf];exact h0.lt _ _ hi),x i c hi]
theorem Ro.push {h : H} {f : Nat} {vs : List AV} {cs : List (List AV)} (r : Ro h f vs cs) (k : Nat) {v : AV} {c : List AV} (hv : vs[k]? = some v) (hc : cs[k]? = some c) (x : AV) (sc : x.sc = true) {z : Nat} (hz : roomy z (c.length + 1) = true) :
 ∃v' h1,kS (h.alloc [x]) 1 z v (.aF h.next 0 1 1)=some (v',h1)∧h1.get f=some vs∧h1.floor=h.floor∧Ro (h1.set f (vs.set k v')) f (vs.set k v') (cs.set k (c++[x]))∧Lo h (h1.set f (vs.set k v')):=by
 have o:=r.own k v c hv hc
 have hfl:=h.lt _ _ r.get
 obtain⟨v',h1,p1,p2,p3,p4,p5,p6⟩:=o.push r.GO (z:=z) (m:=1) (by omega) (by omega) [x] rfl (by simp [AV.aC,sc]) hz
 have hk:k<vs.length:=(vt.1 hv).1
 have gf:h1.get f=some vs:=by rw[p5 f (r.ne k v hv) hfl,r.get]
 have key:∀(i:Nat) (u:AV),(vs.set k v')[i]?=some u→(i=k∧u=v')∨(i≠k∧vs[i]?=some u):=by
  intro i u hu
  by_cases e:k=i
  · subst e
    rw[VV,if_pos rfl,if_pos hk]at hu
    exact .inl ⟨rfl,(vm hu).symm⟩
  · rw[VV,if_neg e]at hu
    exact .inr ⟨fun q=>e q.symm,hu⟩
 have iH:∀(i:Nat) (u:AV),vs[i]?=some u→∀id,u.id?=some id→id<h.next:=by
  intro i u hu id hid
  have hi:i<cs.length:=by rw[←r.len];exact(vt.1 hu).1
  exact((r.own i u _ hu (Vz hi)).lt hid).2
 refine⟨v',h1,p1,gf,p3,⟨?_, ?_, ?_, ?_, ?_, ?_, ?_⟩,⟨by simp [p3],by simp;omega, ?_⟩⟩
 · rw[wu rfl,gf];rfl
 · intro i u d hu hd
   rcases key i u hu with ⟨rfl,rfl⟩|⟨hne,hu⟩
   · rw[VV,if_pos rfl,if_pos (by rw[←r.len];exact hk)]at hd
     obtain rfl:=vm hd
     have:(c++[x]).length=c.length+1:=by simp
     rw[this]
     exact p2.mono (by simp) fun j hj=>by rw[vX];rw[p6]at hj;have:=vm hj;omega
   · rw[VV,if_neg (fun q=>hne q.symm)]at hd
     exact(r.own i u d hu hd).mono (by simp [p3]) fun j hj=>by
      rw[vX (fun q=>r.ne i u hu (by rw[hj,q])),p5 j (fun q=>r.Jo i k u v hne hu hv j hj q) (iH i u hu j hj)]
 · simp [r.len]
 · intro i u hu
   rcases key i u hu with ⟨rfl,rfl⟩|⟨hne,hu⟩
   · rw[p6];intro q;have:=vm q;omega
   · exact r.ne i u hu
 · intro i j u w hij hu hw id hid
   rcases key i u hu with ⟨e1,e2⟩|⟨hne,hu2⟩
   · rcases key j w hw with ⟨e3,e4⟩|⟨hne2,hw2⟩
     · exact absurd (e1.trans e3.symm) hij
     · intro q;have:=iH j w hw2 id q;rw[e2,p6]at hid;have:=vm hid;omega
   · rcases key j w hw with ⟨e3,e4⟩|⟨hne2,hw2⟩
     · intro q;have:=iH i u hu2 id hid;rw[e4,p6]at q;have:=vm q;omega
     · exact r.Jo i j u w hij hu2 hw2 id hid
 · simpa [p3]using r.fl
 · simp [p3];have:=r.GO;omega
 · intro i hi
   have:=r.fl
   rw[vX (by omega),p5 i (fun q=>by have:=(o.lt q).1;omega) (by have:=r.GO;omega)]
theorem Ro.put {h:H} {f:Nat} {vs:List AV} {cs:List (List AV)} (r:Ro h f vs cs) (k i:Nat) {v:AV} {c:List AV} (hv:vs[k]?=some v) (hc:cs[k]?=some c) (x:AV) (sc:x.sc=true) (hi:i<c.length):
 ∃id,v=.aF id 0 c.length 1∧h.get id=some c∧h.floor≤id∧id≠f∧(∀(j:Nat) (u:AV),j≠k→vs[j]?=some u→u.id?≠some id)∧Ro (h.set id (c.set i x)) f vs (cs.set k (c.set i x))∧Lo h (h.set id (c.set i x)):=by
 have o:=r.own k v c hv hc
 rcases o.2 with ⟨_,q⟩|⟨id,q1,q2,q3,q4⟩
 · omega
 have hid:v.id?=some id:=by rw[q1];rfl
 have hne:id≠f:=fun q=>r.ne k v hv (by rw[hid,q])
 have hk:k<vs.length:=(vt.1 hv).1
 refine⟨id,q1,q2,q3,hne,fun j u hj hu q=>r.Jo j k u v hj hu hv id q hid,⟨?_, ?_, ?_,r.ne,r.Jo,by simpa using r.fl,by simpa using r.GO⟩,⟨by simp,by simp,fun j hj=>by rw[vX (by omega)]⟩⟩
 · rw[vX hne.symm,r.get]
 · intro j u d hu hd
   by_cases e:k=j
   · subst e
     rw[hv]at hu
     obtain rfl:=vm hu
     rw[VV,if_pos rfl,if_pos (by rw[←r.len];exact hk)]at hd
     obtain rfl:=vm hd
     have lc:(c.set i x).length=c.length:=VT
     rw[lc]
     exact⟨by omega,.inr ⟨id,q1,by rw[wu rfl,q2];rfl,by simpa using q3,q4⟩⟩
   · rw[VV,if_neg e]at hd
     exact(r.own j u d hu hd).mono (by simp) fun m hm=>by rw[vX];intro q;subst q;exact r.Jo j k u v (fun q=>e q.symm) hu hv m hm hid
 · simp [r.len]
def E1 (F:List Bool):List AV:=F.map .bool
theorem Ci (F:List Bool):(E1 F).length=F.length:=by simp [E1]
theorem MU {F:List Bool} {i:Nat} {b:Bool} (h:F[i]?=some b):(E1 F)[i]?=some (.bool b):=by simp [E1,h]
abbrev NK (W U:List Int) (F:List Bool):List (List AV):=[ints W,ints U,E1 F]
theorem wM.cells {n:Nat} {h:H} {v:AV} {k:Nat} {cs:List AV} (o:wM n h v k cs):v.cells=[v]:=by
 rcases o.2 with ⟨e,_⟩|⟨id,e,_⟩<;>rw[e]<;>rfl
theorem Lj {h:H} {f:Nat} {W U:List Int} {F:List Bool} {wv uv fv:AV} (r:Ro h f [wv,uv,fv] (NK W U F)) (x:Int) (hl:W.length<100000∧U.length<100000∧F.length<100000):
 ∃h' wv' uv' fv',aR AP.A 70 [.aE f 0,.int .i64 x] h=some (.bL [],h')∧Ro h' f [wv',uv',fv'] (NK (W++[x]) (U++[-1]) (F++[true]))∧Lo h h':=by
 have rz:∀n z,n<100000→1≤z→z≤8→roomy z (n+1)=true:=fun n z h1 h2 h3=>xK ⟨h2,by
  have:(n+1+(n+1)/4+512)* z≤1000000* 8:=Wn (by omega) h3
  omega⟩
 obtain⟨v1,h1,a1,a2,a3,a4,a5⟩:=r.push 0 rfl rfl (.int .i64 x) rfl (z:=8) (rz _ _ (by rw[qg];exact hl.1) (by omega) (by omega))
 simp only[List.set_cons_zero]at a4 a5
 obtain⟨g1,eg1⟩:∃g,g=h1.set f [v1,uv,fv]:=⟨_,rfl⟩
 rw[←eg1]at a4 a5
 obtain⟨v2,h2,b1,b2,b3,b4,b5⟩:=a4.push 1 rfl rfl (.int .i64 (-1)) rfl (z:=8) (rz _ _ (by rw[qg];exact hl.2.1) (by omega) (by omega))
 simp only[List.set_cons_succ,List.set_cons_zero]at b4 b5
 obtain⟨g2,eg2⟩:∃g,g=h2.set f [v1,v2,fv]:=⟨_,rfl⟩
 rw[←eg2]at b4 b5
 obtain⟨v3,h3,c1,c2,c3,c4,c5⟩:=b4.push 2 rfl rfl (.bool true) rfl (z:=1) (rz _ _ (by rw[Ci];exact hl.2.2) (by omega) (by omega))
 simp only[List.set_cons_succ,List.set_cons_zero]at c4 c5
 obtain⟨g3,eg3⟩:∃g,g=h3.set f [v1,v2,v3]:=⟨_,rfl⟩
 rw[←eg3]at c4 c5
 have e:NK (W++[x]) (U++[-1]) (F++[true])=[ints W++[.int .i64 x],ints U++[.int .i64 (-1)],E1 F++[.bool true]]:=by
  unfold NK E1;rw[qf,qf,List.map_append];rfl
 have gf:=r.get
 have gf1:=a4.get
 have gf2:=b4.get
 have f1:h1.floor≤f:=by have:=r.fl;omega
 have f2:h2.floor≤f:=by have:=a4.fl;omega
 have f3:h3.floor≤f:=by have:=b4.fl;omega
 have k1:=(a4.own 0 _ _ rfl rfl).cells
 have k2:=(b4.own 1 _ _ rfl rfl).cells
 have k3:=(c4.own 2 _ _ rfl rfl).cells
 have s1:v1.sc=true:=(a4.own 0 _ _ rfl rfl).sc
 have s2:v2.sc=true:=(b4.own 1 _ _ rfl rfl).sc
 have s3:v3.sc=true:=(c4.own 2 _ _ rfl rfl).sc
 refine⟨g3,v1,v2,v3,xb (fn:=AP.f70) (e:=[]) (vs:=[]) rfl rfl rfl ?_ rfl,by rw[e];exact c4,a5.trans (b5.trans c5)⟩
 clear a4 a5 b4 b5 c4 c5 r e rz
 simp (disch:=omega)only[go_sem,wc,AP.f70,gf,gf1,gf2,a1,a2,b1,b2,c1,c2,s1,s2,s3,k1,k2,k3,f1,f2,f3,←eg1,←eg2,←eg3]
def xq (W:List Int) (F:List Bool):Nat→Nat→Int→Int
 |0,_,a=>a
 |m+1,i,a=>xq W F m (i+1) (if F.getD i false=true∧(a<0∨W.getD i 0<W.getD a.toNat 0)then i else a)
theorem BS {W:List Int} {F:List Bool} {n:Nat}:∀(m i:Nat) (a:Int),i+m=n→(a= -1∨(0≤a∧a<n))→(xq W F m i a= -1∨(0≤xq W F m i a∧xq W F m i a<n))
 |0,i,a,_,h=>h
 | m + 1, i, a, hi, h => by
   rw[xq]
   refine BS m (i+1) _ (by omega) ?_
   split
   · right;omega
   · exact h
theorem Dp {h : H} {f iw ifr n : Nat} {uv : AV} {W : List Int} {F : List Bool} (gf : h.get f = some [.aF iw 0 n 1, uv, .aF ifr 0 n 1]) (gw : h.get iw = some (ints W)) (gb : h.get ifr = some (E1 F)) (hW : W.length = n) (hF : F.length = n) (hn : n < 100000) : ∀ (m i : Nat) (a : Int), i + m = n → (a = -1 ∨ (0 ≤ a ∧ a < n)) →
 Lp AP.A [0,3,4] AP.f71L0 [(0,.aE f 0),(3,.int .i64 a),(4,.int .i64 i)] h=some (.exit 0,[(0,.aE f 0),(3,.int .i64 (xq W F m i a)),(4,.int .i64 n),(11,.bool false)],h)
 | 0, i, a, hi, ha => by
   obtain rfl:i=n:=by omega
   refine tW ?_
   rw[xq]
   simp (disch:=omega)only[go_sem,wc,AP.f71L0,gf]
 | m + 1, i, a, hi, ha => by
   have lw:(ints W).length=n:=by rw[qg,hW]
   have lb:(E1 F).length=n:=by rw[Ci,hF]
   have n1:((i+1:Nat):Int)=(i:Int)+1:=by omega
   obtain⟨b,hb⟩:∃b,F[i]?=some b:=⟨_,Vz (by omega)⟩
   obtain⟨x,hx⟩:∃x,W[i]?=some x:=⟨_,Vz (by omega)⟩
   have gb':=MU hb
   have gx:=tG hx
   simp only[I]at gx
   have fb:F.getD i false=b:=by rw[Vx,hb];rfl
   have fx:W.getD i 0=x:=by rw[Vx,hx];rfl
   have hk:0≤a→∃k:Nat,a=k∧k<n∧(ints W)[k]?=some (.int .i64 (W.getD k 0)):=fun h0=>by
    refine⟨a.toNat,by omega,by omega, ?_⟩
    have:=tG (l:=W) (i:=a.toNat) (x:=W.getD a.toNat 0) (by rw[Vx,Vz (by omega)];rfl)
    exact this
   have r1:=Dp gf gw gb hW hF hn m (i+1) (if F.getD i false=true∧(a<0∨W.getD i 0<W.getD a.toNat 0)then i else a) (by omega) (by
    split
    · right;omega
    · exact ha)
   rw[xq]
   refine tX ?_ r1
   rw[n1,fb,fx]
   clear r1 hb hx
   generalize ints W=IW at *
   generalize E1 F=BF at *
   cases b with
   | false =>
     rw[if_neg (by simp)]
     simp (disch:=omega)only[go_sem,wc,AP.f71L0,gf,gw,gb,lw,lb,gb']
   | true =>
     by_cases c:a<0
     · rw[if_pos ⟨rfl,.inl c⟩]
       simp (disch:=omega)only[go_sem,wc,AP.f71L0,gf,gw,gb,lw,lb,gb',VE c]
     · obtain⟨k,rfl,hkn,gk⟩:=hk (by omega)
       have tk:((k:Nat):Int).toNat=k:=by omega
       rw[tk]
       have c':¬((k:Nat):Int)<0:=c
       by_cases c2:x<W.getD k 0
       · rw[if_pos ⟨rfl,.inr c2⟩]
         generalize W.getD k 0=y at *
         clear fx fb ha hk c
         simp (disch:=omega)only[go_sem,wc,AP.f71L0,gf,gw,gb,lw,lb,gb',gx,gk,VD c',VE c2]
       · rw[if_neg (by rintro ⟨_,q|q⟩;exact c' q;exact c2 q)]
         generalize W.getD k 0=y at *
         clear fx fb ha hk c
         simp (disch:=omega)only[go_sem,wc,AP.f71L0,gf,gw,gb,lw,lb,gb',gx,gk,VD c',VD c2]
def wZ (W:List Int) (F:List Bool):Nat:=(xq W F W.length 0 (-1)).toNat
theorem Hp {h:H} {f:Nat} {W U:List Int} {F:List Bool} {wv uv fv:AV} (r:Ro h f [wv,uv,fv] (NK W U F)) (hF:F.length=W.length) (hn:W.length<100000) (h0:0≤xq W F W.length 0 (-1)):
 ∃h',aR AP.A 71 [.aE f 0] h=some (.int .i64 (wZ W F:Nat),h')∧Ro h' f [wv,uv,fv] (NK W U (F.set (wZ W F) false))∧Lo h h':=by
 have rg:=BS (W:=W) (F:=F) (n:=W.length) W.length 0 (-1) (by omega) (.inl rfl)
 have hA:xq W F W.length 0 (-1)=((wZ W F:Nat):Int):=by unfold wZ;omega
 have hAn:wZ W F<W.length:=by omega
 obtain⟨n,en⟩:∃n,n=W.length:=⟨_,rfl⟩
 obtain⟨ifr,q1,q2,q3,q4,q5,q6,q7⟩:=r.put 2 (wZ W F) (v:=fv) (c:=E1 F) rfl rfl (.bool false) rfl (by rw[Ci,hF];exact hAn)
 rw[Ci,hF,←en]at q1
 obtain⟨iw,p1,p2,_⟩:=r.put 0 (wZ W F) (v:=wv) (c:=ints W) rfl rfl (.int .i64 0) rfl (by rw[qg];exact hAn)
 rw[qg,←en]at p1
 have gf:=r.get
 rw[q1,p1]at gf
 have L:=Dp gf p2 q2 en.symm (hF.trans en.symm) (by omega) n 0 (-1) (by omega) (.inl rfl)
 rw[en,hA,←en]at L
 have L':Lp AP.A [0,3,4] AP.f71L0 [(0,.aE f 0),(3,.int .i64 (-1)),(4,.int .i64 0)] h=_:=L
 have lb:(E1 F).length=n:=by rw[Ci,hF,en]
 have es:(E1 F).set (wZ W F) (.bool false)=E1 (F.set (wZ W F) false):=by simp [E1,List.map_set]
 rw[es]at q6 q7
 have q6':Ro (h.set ifr (E1 (F.set (wZ W F) false))) f [wv,uv,fv] (NK W U (F.set (wZ W F) false)):=q6
 have fl:=r.fl
 refine⟨h.set ifr (E1 (F.set (wZ W F) false)),um (fn:=AP.f71) (e:=[(2,.int .i64 (wZ W F:Nat))]) (vs:=[.int .i64 (wZ W F:Nat)]) rfl rfl rfl ?_ rfl,q6',q7⟩
 rw[←en]at hAn
 clear q6 q6' q7 q5 r rg hA L p1 q1 h0
 generalize wZ W F=A at *
 generalize E1 F=BF at *
 generalize E1 (F.set A false)=BF2 at *
 simp (disch:=omega)only[go_sem,wc,AP.f71,sX,L',gf,q2,lb,es]
structure FS where
 W:List Int
 U:List Int
 F:List Bool
def FS.add (s:FS) (x:Int):FS:=⟨s.W++[x],s.U++[-1],s.F++[true]⟩
def FS.a (s:FS):Nat:=wZ s.W s.F
def FS.F1 (s:FS):List Bool:=s.F.set s.a false
def FS.b (s:FS):Nat:=wZ s.W s.F1
def FS.F2 (s:FS):List Bool:=s.F1.set s.b false
def FS.sum (s:FS):Int:=s.W.getD s.a 0+s.W.getD s.b 0
def FS.ET (s:FS):FS:=FS.add ⟨s.W,(s.U.set s.a s.U.length).set s.b s.U.length,s.F2⟩ s.sum
structure FS.ok (s:FS):Prop where
 lu:s.U.length=s.W.length
 lf:s.F.length=s.W.length
 l1:0≤xq s.W s.F s.W.length 0 (-1)
 l2:0≤xq s.W s.F1 s.W.length 0 (-1)
 sm:0≤s.sum∧s.sum<1000000000000000
abbrev FS.C (s:FS):List (List AV):=NK s.W s.U s.F
theorem Fq {W:List Int} {F:List Bool} (h:0≤xq W F W.length 0 (-1)):wZ W F<W.length:=by
 have rg:=BS (W:=W) (F:=F) (n:=W.length) W.length 0 (-1) (by omega) (.inl rfl)
 unfold wZ;omega
theorem xk (l:List Int) (i:Nat) (x:Int):(ints l).set i (.int .i64 x)=ints (l.set i x):=by simp [ints,List.map_set,I]
theorem Qh {h:H} {f:Nat} {s:FS} {wv uv fv:AV} {N:Nat} {x:AV} {i:Nat} (r:Ro h f [wv,uv,fv] s.C) (ok:s.ok) (hn:s.W.length<10000) (ln:jg false x=some (.int .i64 N)) (hi:i<N) (hN:N<100000):
 ∃h' wv' uv' fv',aL (aR AP.A) bp AP.f56L2 (ay [(0,x),(3,.aE f 0),(5,.int .i64 i)] [0,3,5]) h=some (.normal,[(0,x),(3,.aE f 0),(5,.int .i64 (i+1:Nat))],h')∧Ro h' f [wv',uv',fv'] s.ET.C∧Lo h h':=by
 obtain⟨lu,lf,l1,l2,sm⟩:=ok
 have la:=Fq l1
 have lb:=Fq l2
 change s.a<s.W.length at la
 change s.b<s.W.length at lb
 obtain⟨h1,k1,r1,o1⟩:=Hp r lf (by omega) l1
 obtain⟨h2,k2,r2,o2⟩:=Hp r1 (by rw[VT];exact lf) (by omega) l2
 change aR AP.A 71 [.aE f 0] h=some (.int .i64 (s.a:Nat),h1)at k1
 change aR AP.A 71 [.aE f 0] h1=some (.int .i64 (s.b:Nat),h2)at k2
 obtain⟨iw,p1,p2,p3,p4,p5,_⟩:=r2.put 0 s.a (v:=wv) (c:=ints s.W) rfl rfl (.int .i64 0) rfl (by rw[qg];exact la)
 obtain⟨iu,q1,q2,q3,q4,q5,r3,o3⟩:=r2.put 1 s.a (v:=uv) (c:=ints s.U) rfl rfl (.int .i64 s.U.length) rfl (by rw[qg];omega)
 rw[xk]at r3 o3
 obtain⟨h3,eh3⟩:∃g,g=h2.set iu (ints (s.U.set s.a s.U.length)):=⟨_,rfl⟩
 rw[←eh3]at r3 o3
 obtain⟨iu2,q1',q2',q3',q4',q5',r4,o4⟩:=r3.put 1 s.b (v:=uv) (c:=ints (s.U.set s.a s.U.length)) rfl rfl (.int .i64 s.U.length) rfl (by rw[qg,VT];omega)
 rw[xk]at r4 o4
 have:iu2=iu:=by rw[q1]at q1';injection q1' with a _ _ _;exact a.symm
 subst this
 obtain⟨h4,eh4⟩:∃g,g=h3.set iu2 (ints ((s.U.set s.a s.U.length).set s.b s.U.length)):=⟨_,rfl⟩
 rw[←eh4]at r4 o4
 obtain⟨h5,wv',uv',fv',k5,r5,o5⟩:=Lj r4 s.sum (by
  refine⟨by omega,by rw[VT,VT];omega,by rw[VT,VT];omega⟩)
 refine⟨h5,wv',uv',fv', ?_,r5,o1.trans (o2.trans (o3.trans (o4.trans o5)))⟩
 have hwu:iw≠iu2:=by
  intro e
  exact p5 1 uv (by omega) rfl (by rw[q1,e];rfl)
 have gf2:=r2.get
 have gf3:=r3.get
 have gf4:=r4.get
 have gw4:h4.get iw=some (ints s.W):=by rw[eh4,vX hwu,eh3,vX hwu,p2]
 rw[p1,q1]at gf2 gf3 gf4
 rw[qg]at gf2 gf3 gf4
 rw[qg]at gf2 gf3 gf4
 have n1:((i+1:Nat):Int)=(i:Int)+1:=by omega
 have luI:=qg s.U
 have lwI:=qg s.W
 have lsI:=qg (s.U.set s.a s.U.length)
 rw[VT]at lsI
 have e1:=xk s.U s.a s.U.length
 have e2:=xk (s.U.set s.a s.U.length) s.b s.U.length
 have ga:(ints s.W)[s.a]?=some (.int .i64 (s.W.getD s.a 0)):=tG (by rw[Vx,Vz la];rfl)
 have gb:(ints s.W)[s.b]?=some (.int .i64 (s.W.getD s.b 0)):=tG (by rw[Vx,Vz lb];rfl)
 have es:s.W.getD s.a 0+s.W.getD s.b 0=s.sum:=rfl
 clear r r1 r2 r3 r4 r5 o1 o2 o3 o4 o5 p5 q5 q5' l1 l2 p1 q1 q1'
 rw[n1]
 generalize ints ((s.U.set s.a s.U.length).set s.b s.U.length)=U2 at *
 generalize ints (s.U.set s.a s.U.length)=U1 at *
 generalize ints s.U=U0 at *
 generalize ints s.W=W0 at *
 generalize s.W.getD s.a 0=wa at *
 generalize s.W.getD s.b 0=wb0 at *
 generalize s.sum=S at *
 generalize s.a=a at *
 generalize s.b=b at *
 generalize s.U.length=ul at *
 generalize s.W.length=wl at *
 subst lu
 simp (disch:=omega)only[go_sem,wc,AP.f56L2,ln,k1,k2,gf2,gf3,gf4,q2,q2',gw4,luI,lwI,lsI,ga,gb,e1,e2,es,←eh3,←eh4,k5]
def FS.yH:Nat→FS→FS
 |0,s=>s
 |n+1,s=>FS.yH n s.ET
theorem FS.Gj (s:FS):s.ET.W.length=s.W.length+1:=by simp [FS.ET,FS.add]
theorem FS.Ba:∀(n:Nat) (s:FS),(FS.yH n s).W.length=s.W.length+n
 |0,s=>rfl
 |n+1,s=>by rw[FS.yH,FS.Ba n,FS.Gj];omega
theorem Ff {f:Nat} {N:Nat} {x:AV} (hN:N<1000):∀(m i:Nat) (s:FS) (h:H) (wv uv fv:AV),i+m=N→Ro h f [wv,uv,fv] s.C→(∀k,k<m→(FS.yH k s).ok)→s.W.length+m<10000→jg false x=some (.int .i64 N)→
 ∃h' wv' uv' fv',Lp AP.A [0,3,5] AP.f56L2 [(0,x),(3,.aE f 0),(5,.int .i64 i)] h=some (.exit 2,[(0,x),(3,.aE f 0),(5,.int .i64 N),(29,.bool false)],h')∧Ro h' f [wv',uv',fv'] (FS.yH m s).C∧Lo h h'
 | 0, i, s, h, wv, uv, fv, hi, r, ok, hl, ln => by
   obtain rfl:i=N:=by omega
   refine⟨h,wv,uv,fv,tW ?_,r,Lo.refl h⟩
   simp (disch:=omega)only[go_sem,wc,AP.f56L2,ln]
 | m + 1, i, s, h, wv, uv, fv, hi, r, ok, hl, ln => by
   obtain⟨h1,w1,u1,f1,k1,r1,o1⟩:=Qh r (ok 0 (by omega)) (by omega) ln (show i<N by omega) (by omega)
   obtain⟨h',w',u',f',k2,r2,o2⟩:=Ff hN m (i+1) s.ET h1 w1 u1 f1 (by omega) r1 (fun k hk=>ok (k+1) (by omega)) (by rw[FS.Gj];omega) ln
   exact⟨h',w',u',f',tX k1 k2,r2,o1.trans o2⟩
def z5 (ws:List Int):FS:=⟨ws,List.replicate ws.length (-1),List.replicate ws.length true⟩
theorem Lv (p:List Int) (x:Int):z5 (p++[x])=(z5 p).add x:=by
 unfold z5 FS.add
 simp only[vV,V8,List.replicate_succ']
theorem Fc {f:Nat} {x:AV} {ws:List Int} (hn:ws.length<1000) (h0:H) (rd:Rd h0 x (ints ws)):∀(q p:List Int) (h:H) (wv uv fv:AV),ws=p++q→Ext h0 h→h.floor=h0.next→Ro h f [wv,uv,fv] (z5 p).C→
 ∃h' wv' uv' fv',Lp AP.A [0,3,4] AP.f56L3 [(0,x),(3,.aE f 0),(4,.int .i64 p.length)] h=some (.exit 0,[(0,x),(3,.aE f 0),(4,.int .i64 ws.length),(17,.bool false)],h')∧Ro h' f [wv',uv',fv'] (z5 ws).C∧Lo h h'
 | [], p, h, wv, uv, fv, hp, hx, hf, r => by
   rw[VM]at hp;subst hp
   have ln:=rd.len
   rw[qg]at ln
   simp only[I]at ln
   refine⟨h,wv,uv,fv,tW ?_,r,Lo.refl h⟩
   simp (disch:=omega)only[go_sem,wc,AP.f56L3,ln]
 | y :: q, p, h, wv, uv, fv, hp, hx, hf, r => by
   have ln:=rd.len
   rw[qg]at ln
   simp only[I]at ln
   have hl:ws.length=p.length+(q.length+1):=by rw[hp];simp
   obtain⟨ad,a1,a2⟩:=rd.xj
   have b1:=a1 p.length ⟨by omega,by omega⟩
   have b2:=a2 h hx p.length y (by rw[hp];simp)
   obtain⟨h1,w1,u1,f1,k1,r1,o1⟩:=Lj r y (by simp [z5];omega)
   have r1':Ro h1 f [w1,u1,f1] (z5 (p++[y])).C:=by rw[Lv];exact r1
   obtain⟨h',w',u',f',k2,r2,o2⟩:=Fc hn h0 rd q (p++[y]) h1 w1 u1 f1 (by rw[hp];simp) (hx.lo o1 hf) (by rw[o1.floor,hf]) r1'
   have n1:(((p++[y]).length:Nat):Int)=(p.length:Int)+1:=by simp
   refine⟨h',w',u',f',tX ?_ k2,r2,o1.trans o2⟩
   rw[n1]
   clear r r1 r1' k2 r2 o1 o2 hx rd a1 a2
   simp (disch:=omega)only[go_sem,wc,AP.f56L3,ln,b1,b2,k1]
def zT (U:List Int):Nat→Int→Nat
 |0,_=>0
 |m+1,j=>if 0≤j then zT U m (U.getD j.toNat (-1))+1 else 0
def EX (U:List Int):Prop:=∀j:Nat,j<U.length→U.getD j (-1)= -1∨((j:Int)<U.getD j (-1)∧U.getD j (-1)<U.length)
theorem F3 {h:H} {f iu n:Nat} {wv fv x ov:AV} {U:List Int} {i:Nat} (gf:h.get f=some [wv,.aF iu 0 n 1,fv]) (gu:h.get iu=some (ints U)) (hU:U.length=n) (hn:n<10000) (ok:EX U):∀(m:Nat) (j:Int) (k:Nat),(j= -1∨(0≤j∧j<n))→(0≤j→(n:Int)≤j+m)→k+m<100000→
 ∃j',Lp AP.A [0,3,8,9,10,11] AP.f56L0 [(0,x),(3,.aE f 0),(8,ov),(9,.int .i64 i),(10,.int .i64 k),(11,.int .i64 j)] h=some (.exit 6,[(0,x),(3,.aE f 0),(8,ov),(9,.int .i64 i),(10,.int .i64 (k+zT U m j:Nat)),(11,.int .i64 j'),(89,.bool false)],h)
 | 0, j, k, hj, hm, hk => by
   obtain rfl:j= -1:=by omega
   refine⟨-1,tW ?_⟩
   rw[zT]
   simp (disch:=omega)only[go_sem,wc,AP.f56L0]
 | m + 1, j, k, hj, hm, hk => by
   by_cases c:0≤j
   · obtain⟨q,rfl⟩:=VF c
     have hq:q<n:=by omega
     have o:=ok q (by omega)
     have lu:(ints U).length=n:=by rw[qg,hU]
     have gq:(ints U)[q]?=some (.int .i64 (U.getD q (-1))):=tG (by rw[Vx,Vz (by omega)];rfl)
     rw[hU]at o
     obtain⟨j',r1⟩:=F3 (x:=x) (ov:=ov) (i:=i) gf gu hU hn ok m (U.getD q (-1)) (k+1) (by omega) (by omega) (by omega)
     have n1:((k+1:Nat):Int)=(k:Int)+1:=by omega
     have tq:((q:Nat):Int).toNat=q:=by omega
     rw[zT,if_pos c,tq]
     rw[show k+(zT U m (U.getD q (-1))+1)=k+1+zT U m (U.getD q (-1))by omega]
     refine⟨j',tX ?_ r1⟩
     rw[n1]
     clear r1 o ok
     generalize U.getD q (-1)=y at *
     generalize ints U=IU at *
     simp (disch:=omega)only[go_sem,wc,AP.f56L0,gf,gu,lu,gq]
   · rw[zT,if_neg c]
     refine⟨j,tW ?_⟩
     simp (disch:=omega)only[go_sem,wc,AP.f56L0]
def BL (U:List Int) (n:Nat):List Int:=(List.range n).map fun i=>((zT U U.length (U.getD i (-1)):Nat):Int)
theorem Kc (U:List Int) (n:Nat):BL U (n+1)=BL U n++[((zT U U.length (U.getD n (-1)):Nat):Int)]:=by simp [BL,List.range_succ]
theorem Ld (U:List Int) (n:Nat):(BL U n).length=n:=by simp [BL]
theorem Hh {f iu n N:Nat} {wv fv x:AV} {U:List Int} (hU:U.length=n) (hn:n<10000) (ok:EX U) (hN:N≤n) (ln:jg false x=some (.int .i64 N)) (B:Nat):∀(m i:Nat) (h:H) (ov:AV),i+m=N→h.get f=some [wv,.aF iu 0 n 1,fv]→h.get iu=some (ints U)→f<B→iu<B→B≤h.next→wM 1 h ov i (ints (BL U i))→h.floor≤h.next→(∀j,ov.id?=some j→B≤j)→
 ∃h' ov',Lp AP.A [0,3,8,9] AP.f56L1 [(0,x),(3,.aE f 0),(8,ov),(9,.int .i64 i)] h=some (.exit 4,[(0,x),(3,.aE f 0),(8,ov'),(9,.int .i64 N),(78,.bool false)],h')∧wM 1 h' ov' N (ints (BL U N))∧h'.floor=h.floor
 | 0, i, h, ov, hi, gf, gu, hf, hiu, hB, ow, hfl, hov => by
   obtain rfl:i=N:=by omega
   refine⟨h,ov,tW ?_,ow,rfl⟩
   simp (disch:=omega)only[go_sem,wc,AP.f56L1,ln]
 | m + 1, i, h, ov, hi, gf, gu, hf, hiu, hB, ow, hfl, hov => by
   have o:=ok i (by omega)
   rw[hU]at o
   have lu:(ints U).length=n:=by rw[qg,hU]
   have gq:(ints U)[i]?=some (.int .i64 (U.getD i (-1))):=tG (by rw[Vx,Vz (by omega)];rfl)
   obtain⟨j',L⟩:=F3 (x:=x) (ov:=ov) (i:=i) gf gu hU hn ok n (U.getD i (-1)) 0 (by omega) (by omega) (by omega)
   rw[vF]at L
   obtain⟨v',h1,p1,p2,p3,p4,p5,p6⟩:=ow.push hfl (z:=8) (m:=1) (by omega) (by omega) [.int .i64 (zT U n (U.getD i (-1)):Nat)] rfl rfl (xK (by omega))
   have e:=Kc U i
   rw[hU]at e
   have ow2:wM 1 h1 v' (i+1) (ints (BL U (i+1))):=by rw[e,qf];exact p2
   obtain⟨h',ov',r1,r2,r3⟩:=Hh hU hn ok hN ln B m (i+1) h1 v' (by omega) (by rw[p5 f (fun q=>by have:=hov f q;omega) (by omega),gf]) (by rw[p5 iu (fun q=>by have:=hov iu q;omega) (by omega),gu]) hf hiu (by omega) ow2 (by omega) (fun j hj=>by rw[p6]at hj;have:=vm hj;omega)
   have n1:((i+1:Nat):Int)=(i:Int)+1:=by omega
   have L':Lp AP.A [0,3,8,9,10,11] AP.f56L0 [(0,x),(3,.aE f 0),(8,ov),(9,.int .i64 i),(10,.int .i64 0),(11,.int .i64 (U.getD i (-1)))] h=_:=L
   refine⟨h',ov',tX ?_ r1,r2,by omega⟩
   rw[n1]
   clear r1 r2 r3 ow2 e p2 p5 p6 ok o L hov ow
   generalize zT U n (U.getD i (-1))=K at *
   generalize U.getD i (-1)=y at *
   generalize ints U=IU at *
   simp (disch:=omega)only[go_sem,wc,AP.f56L1,ln,gf,gu,lu,gq,sX,L',p1]
def wB (ws:List Int):List Int:=BL (FS.yH (ws.length-1) (z5 ws)).U ws.length
theorem Le (h : H) (x : AV) (ws : List Int) (h2 : 1 ≤ ws.length) (hn : ws.length < 1000) (rd : Rd h x (ints ws)) (ok : ∀ k, k < ws.length - 1 → (FS.yH k (z5 ws)).ok) (up : EX (FS.yH (ws.length - 1) (z5 ws)).U) (lu : (FS.yH (ws.length - 1) (z5 ws)).U.length = (FS.yH (ws.length - 1) (z5 ws)).W.length) :
 aR AP.A 56 [x] h=some (yx 1 ws.length (ints (wB ws)),h):=by
 have yO:Rd h.dQ x (ints ws):=rd.mono (wo h)
 have ln:=rd.len
 rw[qg]at ln
 simp only[I]at ln
 obtain⟨h1,eh1⟩:∃g,g=h.dQ.alloc [.aP,.aP,.aP]:=⟨_,rfl⟩
 have g1:h1.get h.next=some [.aP,.aP,.aP]:=by rw[eh1,wh (by simp)]
 have r0:Ro h1 h.next [.aP,.aP,.aP] (z5 []).C:=by
  have nl:∀(i:Nat) (v:AV),([.aP,.aP,.aP]:List AV)[i]?=some v→v=.aP:=by
   intro i v hv
   have:=vE hv
   simp at this;exact this
  refine⟨g1, ?_,rfl, ?_, ?_,by rw[eh1];simp,by rw[eh1];simp⟩
  · intro i v c hv hc
    have:=nl i v hv
    subst this
    have hc':c=[]:=by
     have:=vE hc
     simp [z5,ints,E1]at this;exact this
    subst hc'
    exact wM.nil
  · intro i v hv;rw[nl i v hv];simp [AV.id?]
  · intro i j v u _ hv _ id hid;rw[nl i v hv]at hid;simp [AV.id?]at hid
 obtain⟨h2',w2,u2,f2,k2,r2,o2⟩:=Fc hn h.dQ yO ws [] h1 .aP .aP .aP rfl (by rw[eh1];exact(Ext.refl _).alloc _) (by rw[eh1];simp) r0
 have k2':Lp AP.A [0,3,4] AP.f56L3 [(0,x),(3,.aE h.next 0),(4,.int .i64 0)] h1=_:=k2
 obtain⟨h3,w3,u3,f3,k3,r3,o3⟩:=Ff (N:=ws.length) (x:=x) hn (ws.length-1) 1 (z5 ws) h2' w2 u2 f2 (by omega) r2 ok (by simp [z5];omega) ln
 have k3':Lp AP.A [0,3,5] AP.f56L2 [(0,x),(3,.aE h.next 0),(5,.int .i64 1)] h2'=_:=k3
 unfold wB
 have wl:=FS.Ba (ws.length-1) (z5 ws)
 have wl0:(z5 ws).W.length=ws.length:=rfl
 generalize hS:FS.yH (ws.length-1) (z5 ws)=S at *
 obtain⟨iu,q1,q2,q3,q4,q5,_⟩:=r3.put 1 0 (v:=u3) (c:=ints S.U) rfl rfl (.int .i64 0) rfl (by rw[qg];omega)
 rw[qg]at q1
 have gf:=r3.get
 rw[q1]at gf
 obtain⟨h4,o4,k4,ow4,fl4⟩:=Hh (x:=x) (N:=ws.length) (f:=h.next) (iu:=iu) (wv:=w3) (fv:=f3) (n:=S.U.length) (U:=S.U) rfl (by omega) up (by omega) ln h3.next ws.length 0 h3 .aP (by omega) gf q2 (h3.lt _ _ gf) (h3.lt _ _ q2) (vB _) wM.nil r3.GO (fun j hj=>by simp [AV.id?]at hj)
 have k4':Lp AP.A [0,3,8,9] AP.f56L1 [(0,x),(3,.aE h.next 0),(8,.aP),(9,.int .i64 0)] h3=_:=k4
 have hnx:h.dQ.next=h.next:=rfl
 have fl:h4.floor=h.next:=by rw[fl4,o3.floor,o2.floor,eh1];simp
 refine uL (fn:=AP.f56) (h2:=h4) (e:=[(2,o4)]) (vs:=[o4]) rfl rfl rfl ?_ rfl ?_
 · clear k2 k3 k4 r0 r2 r3 ow4 rd yO ok up o2 o3 q5
   simp (disch:=omega)only[go_sem,wc,AP.f56,hnx,←eh1,sX,k2',k3',k4']
 · exact ow4.yj (fl:=h.next) (m:=14) (t:=true) (by omega)
def Cb (u v:AV):Prop:=∀j,u.id?=some j→v.id?≠some j
theorem Cb.symm {u v:AV} (a:Cb u v):Cb v u:=fun j h q=>a j q h
def wg:Nat→List Int→List Int
 |_,[]=>[]
 |i,c::r=>if 0<c then(i:Int)::wg (i+1) r else wg (i+1) r
def wq:List Int→List Int
 |[]=>[]
 |c::r=>if 0<c then c::wq r else wq r
theorem wM.yO {h:H} {v:AV} {cs:List AV} (o:wM 1 h v cs.length cs):Rd h v cs:=⟨o.rd.1,o.rd.2.2⟩
theorem wM.NR {h:H} {v:AV} {l:List Int} (o:wM 1 h v l.length (ints l)):Rd h v (ints l):=by
 refine wM.yO ?_
 rw[qg];exact o
theorem En {x mv : AV} {C : List Int} (hC : C.length < 1000) (hr : ∀ y ∈ C, 0 ≤ y ∧ y ≤ 2147483647) (h0 : H) (rd : Rd h0 x (ints C)) : ∀ (q p S W : List Int) (h : H) (sv wv : AV), C = p ++ q → Ext h0 h → h.floor = h0.next → h.floor ≤ h.next → wM 1 h sv S.length (ints S) → wM 1 h wv W.length (ints W) → Cb sv wv → S.length ≤ p.length → W.length ≤ p.length →
 ∃h' sv' wv',Lp AP.A [0,1,6,7,8] AP.f30L3 [(0,x),(1,mv),(6,sv),(7,wv),(8,.int .i64 p.length)] h=some (.exit 0,[(0,x),(1,mv),(6,sv'),(7,wv'),(8,.int .i64 C.length),(33,.bool false)],h')∧wM 1 h' sv' (S++wg p.length q).length (ints (S++wg p.length q))∧wM 1 h' wv' (W++wq q).length (ints (W++wq q))∧Cb sv' wv'∧h'.floor=h.floor∧h'.floor≤h'.next
 | [], p, S, W, h, sv, wv, hp, hx, hf, hfl, os, ow, ap, hS, hW => by
   rw[VM]at hp;subst hp
   have ln:=rd.len
   rw[qg]at ln
   simp only[I]at ln
   refine⟨h,sv,wv,tW ?_,by simpa [wg]using os,by simpa [wq]using ow,ap,rfl,hfl⟩
   simp (disch:=omega)only[go_sem,wc,AP.f30L3,ln]
 | y :: q, p, S, W, h, sv, wv, hp, hx, hf, hfl, os, ow, ap, hS, hW => by
   have ln:=rd.len
   rw[qg]at ln
   simp only[I]at ln
   have hl:C.length=p.length+(q.length+1):=by rw[hp];simp
   obtain⟨ad,a1,a2⟩:=rd.xj
   have b1:=a1 p.length ⟨by omega,by omega⟩
   have hyC:C[p.length]?=some y:=by rw[hp];simp
   have b2:=a2 h hx p.length y hyC
   have yr:=hr y (vE hyC)
   have n1:(((p++[y]).length:Nat):Int)=(p.length:Int)+1:=by simp
   have n2:(p++[y]).length=p.length+1:=by simp
   by_cases c:0<y
   · obtain⟨v1,h1,p1,p2,p3,p4,p5,p6⟩:=os.push hfl (z:=8) (m:=1) (by omega) (by omega) [.int .i64 p.length] rfl rfl (xK (by omega))
     have ow1:wM 1 h1 wv W.length (ints W):=ow.mono p3 fun j hj=>p5 j (fun e=>ap j e hj) (ow.lt hj).2
     have hx1:Ext h0 h1:=fun i d hi=>by
      have:=h0.lt _ _ hi
      rw[p5 i (fun e=>by have:=(os.lt e).1;omega) (by omega),hx i d hi]
     have b3:=a2 h1 hx1 p.length y hyC
     obtain⟨v2,h2,q1,q2,q3,q4,q5,q6⟩:=ow1.push (by omega) (z:=8) (m:=1) (by omega) (by omega) [.int .i64 y] rfl rfl (xK (by omega))
     have hx2:Ext h0 h2:=fun i d hi=>by
      have:=h0.lt _ _ hi
      rw[q5 i (fun e=>by have:=(ow1.lt e).1;omega) (by omega),hx1 i d hi]
     have os2:wM 1 h2 v1 (S++[(p.length:Int)]).length (ints (S++[(p.length:Int)])):=by
      rw[qf,vV]
      exact p2.mono (by omega) fun j hj=>q5 j (fun e=>by rw[p6]at hj;have:=vm hj;have:=(ow.lt e).2;omega) (p2.lt hj).2
     have ow2:wM 1 h2 v2 (W++[y]).length (ints (W++[y])):=by rw[qf,vV];exact q2
     obtain⟨h',sv',wv',r1,r2,r3,r4,r5,r6⟩:=En hC hr h0 rd q (p++[y]) (S++[(p.length:Int)]) (W++[y]) h2 v1 v2 (by rw[hp];simp) hx2 (by omega) (by omega) os2 ow2 (fun j hj e=>by rw[p6]at hj;rw[q6]at e;have:=vm hj;have:=vm e;omega) (by simp;omega) (by simp;omega)
     rw[wg,if_pos c,wq,if_pos c]
     rw[n2,VH]at r2
     rw[VH]at r3
     refine⟨h',sv',wv',tX ?_ r1,r2,r3,r4,by omega,r6⟩
     rw[n1]
     clear r1 r2 r3 r4 os ow os2 ow2 ow1 hx hx1 hx2 rd a1 a2 hr p2 p5 q2 q5 ap
     simp (disch:=omega)only[go_sem,wc,AP.f30L3,ln,b1,b2,b3,p1,q1]
   · obtain⟨h',sv',wv',r1,r2,r3,r4,r5,r6⟩:=En hC hr h0 rd q (p++[y]) S W h sv wv (by rw[hp];simp) hx hf hfl os ow ap (by simp;omega) (by simp;omega)
     rw[wg,if_neg c,wq,if_neg c]
     rw[n2]at r2
     refine⟨h',sv',wv',tX ?_ r1,r2,r3,r4,by omega,r6⟩
     rw[n1]
     clear r1 r2 r3 r4 os ow hx rd a1 a2 hr ap
     simp (disch:=omega)only[go_sem,wc,AP.f30L3,ln,b1,b2]
def wU:List Int→List Int→List Int→List Int
 |s::ss,d::ds,o=>wU ss ds (o.set s.toNat d)
 |_,_,o=>o
theorem xw:∀(ss ds o:List Int),(wU ss ds o).length=o.length
 |[],_,o=>by simp [wU]
 |s::ss,[],o=>by simp [wU]
 |s::ss,d::ds,o=>by rw[wU,xw ss ds,VT]
def zI:List Int→Int→Int
 |[],m=>m
 |d::ds,m=>zI ds (CW m d)
theorem Ext.CF {hb h:H} {o:Nat} (x:Ext hb h) (hn:hb.get o=none) (c:List AV):Ext hb (h.set o c):=fun i d q=>by
 have:i≠o:=fun e=>by rw[e,hn]at q;cases q
 rw[vX this,x i d q]
theorem Fz {mv wv dv sv:AV} {S D:List Int} {n oid:Nat} (hS:S.length<1000) (hDS:D.length=S.length) (hn:n<1000) (hr:∀s∈S,0≤s∧s<n) (hb:H) (rds:Rd hb sv (ints S)) (rdd:Rd hb dv (ints D)) (hno:hb.get oid=none):∀(q p s1 s2:List Int) (O:List Int) (m:Int) (h:H),D=p++q→S=s1++s2→s1.length=p.length→Ext hb h→O.length=n→h.get oid=some (ints O)→h.floor≤oid→(∀d∈q,0≤d∧d<1000)→0≤m→
 ∃h',Lp AP.A [1,6,7,9,10,11,12] AP.f30L1 [(1,mv),(6,sv),(7,wv),(9,.aF oid 0 n 1),(10,dv),(11,.int .i64 m),(12,.int .i64 p.length)] h=some (.exit 4,[(1,mv),(6,sv),(7,wv),(9,.aF oid 0 n 1),(10,dv),(11,.int .i64 (zI q m)),(12,.int .i64 D.length),(103,.bool false)],h')∧h'.get oid=some (ints (wU s2 q O))∧h'.floor=h.floor∧h'.next=h.next∧(∀i,i≠oid→h'.get i=h.get i)
 | [], p, s1, s2, O, m, h, hp, hs, hl, hx, hO, go, hfo, hd, hm => by
   rw[VM]at hp;subst hp
   have ln:=rdd.len
   rw[qg]at ln
   simp only[I]at ln
   have e:wU s2 [] O=O:=by cases s2<;>rfl
   rw[e]
   refine⟨h,tW ?_,go,rfl,rfl,fun _ _=>rfl⟩
   rw[zI]
   simp (disch:=omega)only[go_sem,wc,AP.f30L1,ln]
 | d :: q, p, s1, s2, O, m, h, hp, hs, hl, hx, hO, go, hfo, hd, hm => by
   have ln:=rdd.len
   rw[qg]at ln
   simp only[I]at ln
   have hDl:D.length=p.length+(q.length+1):=by rw[hp];simp
   have hSl:S.length=s1.length+s2.length:=by rw[hs];simp
   obtain⟨s,s2,rfl⟩:∃s r,s2=s::r:=by
    cases s2 with
    |nil=>simp at hSl;omega
    |cons s r=>exact⟨s,r,rfl⟩
   have dr:=hd d (by simp)
   have hs':S[p.length]?=some s:=by rw[hs,←hl];simp
   have sr:=hr s (vE hs')
   obtain⟨sn,rfl⟩:=VF sr.1
   obtain⟨asv,a1,a2⟩:=rds.xj
   obtain⟨ad,d1,d2⟩:=rdd.xj
   have b1:=a1 p.length ⟨by omega,by omega⟩
   have b2:=a2 h hx p.length _ hs'
   have c1:=d1 p.length ⟨by omega,by omega⟩
   have c2:=d2 h hx p.length d (by rw[hp];simp)
   have lO:(ints O).length=n:=by rw[qg,hO]
   have es:=xk O sn d
   have tsn:((sn:Nat):Int).toNat=sn:=by omega
   have fr':∀i,i≠oid→(h.set oid (ints (O.set sn d))).get i=h.get i:=fun i hi=>vX hi
   have hx2:=hx.CF hno (ints (O.set sn d))
   have gO:(h.set oid (ints (O.set sn d))).get oid=some (ints (O.set sn d)):=by rw[wu rfl,go];rfl
   obtain⟨h',k1,k2,k3,k4,k5⟩:=Fz hS hDS hn hr hb rds rdd hno q (p++[d]) (s1++[(sn:Int)]) s2 (O.set sn d) (CW m d) (h.set oid (ints (O.set sn d))) (by rw[hp];simp) (by rw[hs];simp) (by simp [hl]) hx2 (by rw[VT,hO]) gO (by simpa using hfo) (fun e he=>hd e (by simp [he])) (by unfold CW;split<;>omega)
   have b1':fP 1 dv (.int .i64 p.length)=some (ad p.length):=c1
   have c3:bP false 1 (ad p.length) (h.set oid (ints (O.set sn d)))=some (.int .i64 d):=d2 _ hx2 p.length d (by rw[hp];simp)
   have n1:(((p++[d]).length:Nat):Int)=(p.length:Int)+1:=by simp
   rw[wU,tsn,zI]
   refine⟨h',tX ?_ k1,k2,by rw[k3];simp,by rw[k4];simp,fun i hi=>(k5 i hi).trans (fr' i hi)⟩
   rw[n1]
   have snn:sn<n:=by omega
   clear k1 k2 k3 k4 k5 fr' hx hx2 rds rdd a1 a2 d1 d2 hd hr hs hp hs'
   generalize ints (O.set sn d)=O2 at *
   generalize ints O=O1 at *
   simp (disch:=omega)only[go_sem,wc,AP.f30L1,ln,b1,b2,c1,c2,c3,go,lO,es,Gq,DB]
def y7 (w:Int):Int:=(w+1)/2
def wT (ws:List Int):List Int:=ws.map y7
theorem yD (ws:List Int):(wT ws).length=ws.length:=by simp [wT]
theorem Fg {mv sv ov:AV} {n wid:Nat} (hn:n<1000):∀(q p:List Int) (h:H),p.length+q.length=n→(∀y∈q,0≤y∧y<1000000000000)→h.get wid=some (ints (wT p++q))→h.floor≤wid→h.floor≤h.next→
 ∃h',Lp AP.A [1,6,7,9,13] AP.f30L0 [(1,mv),(6,sv),(7,.aF wid 0 n 1),(9,ov),(13,.int .i64 p.length)] h=some (.exit 6,[(1,mv),(6,sv),(7,.aF wid 0 n 1),(9,ov),(13,.int .i64 n),(129,.bool false)],h')∧h'.get wid=some (ints (wT (p++q)))∧h'.floor=h.floor∧h'.next=h.next∧(∀i,i≠wid→h'.get i=h.get i)
 | [], p, h, hl, hr, hg, hf, hfl => by
   obtain rfl:p.length=n:=by simpa using hl
   refine⟨h,tW ?_,by simpa using hg,rfl,rfl,fun _ _=>rfl⟩
   simp (disch:=omega)only[go_sem,wc,AP.f30L0]
 | y :: q, p, h, hl, hr, hg, hf, hfl => by
   have yr:=hr y (by simp)
   simp only[Vy]at hl
   have n1:(((p++[y]).length:Nat):Int)=(p.length:Int)+1:=by simp
   have hp:(wT p).length=p.length:=yD p
   have ix:(ints (wT p++y::q))[p.length]?=some (.int .i64 y):=tG (by rw[VL (by omega),hp];simp)
   have il:(ints (wT p++y::q)).length=n:=by rw[qg,vV,hp,Vy];omega
   have st:(ints (wT p++y::q)).set p.length (.int .i64 (y7 y))=ints (wT (p++[y])++q):=by
    rw[xk,V9 _ _ (by omega),hp,Wo]
    simp [wT]
   have q1:bj .quo (.int .i64 (y+1)) (.int .i64 2)=some (.int .i64 (y7 y)):=by
    rw[sK _ _ _ (by omega),Int.tdiv_eq_ediv_of_nonneg (by omega),wi (by omega)];rfl
   have g2:(h.set wid (ints (wT (p++[y])++q))).get wid=some (ints (wT (p++[y])++q)):=by rw[wu rfl,hg];rfl
   obtain⟨h',k1,k2,k3,k4,k5⟩:=Fg (mv:=mv) (sv:=sv) (ov:=ov) hn q (p++[y]) (h.set wid (ints (wT (p++[y])++q))) (by simp;omega) (fun e he=>hr e (by simp [he])) g2 (by simpa using hf) (by simpa using hfl)
   refine⟨h',tX ?_ k1,by rw[k2];simp,by rw[k3];simp,by rw[k4];simp,fun i hi=>by rw[k5 i hi,vX hi]⟩
   rw[n1]
   clear k1 k2 k3 k4 k5 g2 hr
   generalize ints (wT p++y::q)=A at *
   generalize ints (wT (p++[y])++q)=B at *
   simp (disch:=omega)only[go_sem,wc,AP.f30L0,ix,il,st,q1,hg]
def FD (ws:List Int):Prop:=ws=[]∨(1≤ws.length∧ws.length≤288∧(∀k,k<ws.length-1→(FS.yH k (z5 ws)).ok)∧EX (FS.yH (ws.length-1) (z5 ws)).U∧(FS.yH (ws.length-1) (z5 ws)).U.length=(FS.yH (ws.length-1) (z5 ws)).W.length)
theorem JW (U:List Int):∀(m:Nat) (j:Int),zT U m j≤m
 |0,j=>vB _
 | m + 1, j => by
   rw[zT]
   split
   · have:=JW U m (U.getD j.toNat (-1));omega
   · omega
theorem Dk {ws:List Int} (o:FD ws):∀d∈wB ws,0≤d∧d<1000:=by
 intro d hd
 rcases o with rfl|⟨h1,h2,_,_,h5⟩
 · simp [wB,BL]at hd
 · unfold wB BL at hd
   obtain⟨i,_,rfl⟩:=VN.1 hd
   have:=JW (FS.yH (ws.length-1) (z5 ws)).U (FS.yH (ws.length-1) (z5 ws)).U.length ((FS.yH (ws.length-1) (z5 ws)).U.getD i (-1))
   rw[h5,FS.Ba]at this
   rw[h5,FS.Ba]
   have:(z5 ws).W.length=ws.length:=rfl
   omega
theorem xD (ws:List Int):(wB ws).length=ws.length:=Ld _ _
theorem Kd (h:H) (x:AV) (ws:List Int) (rd:Rd h x (ints ws)) (o:FD ws):aR AP.A 56 [x] h=some (yx 1 ws.length (ints (wB ws)),h):=by
 rcases o with rfl|⟨h1,h2,h3,h4,h5⟩
 · have ln:=rd.len
   simp only[I,qg]at ln
   have ln':jg false x=some (.int .i64 0):=ln
   have l3:∀g:H,Lp AP.A [0,3,4] AP.f56L3 [(0,x),(3,.aE h.next 0),(4,.int .i64 0)] g=some (.exit 0,[(0,x),(3,.aE h.next 0),(4,.int .i64 0),(17,.bool false)],g):=fun g=>by
    refine tW ?_
    simp (disch:=omega)only[go_sem,wc,AP.f56L3,ln']
   have l2:∀g:H,Lp AP.A [0,3,5] AP.f56L2 [(0,x),(3,.aE h.next 0),(5,.int .i64 1)] g=some (.exit 2,[(0,x),(3,.aE h.next 0),(5,.int .i64 1),(29,.bool false)],g):=fun g=>by
    refine tW ?_
    simp (disch:=omega)only[go_sem,wc,AP.f56L2,ln']
   have l1:∀g:H,Lp AP.A [0,3,8,9] AP.f56L1 [(0,x),(3,.aE h.next 0),(8,.aP),(9,.int .i64 0)] g=some (.exit 4,[(0,x),(3,.aE h.next 0),(8,.aP),(9,.int .i64 0),(78,.bool false)],g):=fun g=>by
    refine tW ?_
    simp (disch:=omega)only[go_sem,wc,AP.f56L1,ln']
   have hnx:h.dQ.next=h.next:=rfl
   refine uL (fn:=AP.f56) (h2:=h.dQ.alloc [.aP,.aP,.aP]) (e:=[(2,.aP)]) (vs:=[.aP]) rfl rfl rfl ?_ rfl rfl
   simp (disch:=omega)only[go_sem,wc,AP.f56,hnx,sX,l1,l2,l3]
 · exact Le h x ws h1 (by omega) rd h3 h4 h5
def yR (S:List Int):Nat→List Int→List Int→List Int
 |0,W,O=>wU S (wB W) O
 |K+1,W,O=>yR S K (wT W) (wU S (wB W) O)
theorem DN {h:H} {v:AV} {k:Nat} {cs:List AV} (o:wM 1 h v k cs) (hk:0<k):∃id,v=.aF id 0 k 1∧h.get id=some cs∧h.floor≤id:=by
 rcases o.2 with ⟨_,q⟩|⟨id,q1,q2,q3,_⟩
 · omega
 · exact⟨id,q1,q2,q3⟩
theorem LN {S W O:List Int} {h:H} {sv wv:AV} {n oid:Nat} {most:Int} (hW:W.length=S.length) (hS:S.length≤288) (hn:n≤288) (hO:O.length=n) (hr:∀s∈S,0≤s∧s<n) (hfl:h.floor≤h.next) (os:wM 1 h sv S.length (ints S)) (ow:wM 1 h wv W.length (ints W)) (go:h.get oid=some (ints O)) (hfo:h.floor≤oid) (ap:Cb sv wv) (ns:sv.id?≠some oid) (nw:wv.id?≠some oid) (o:FD W) (hm:1≤most∧most≤15) (wr:∀y∈W,0≤y∧y<1000000000000):
 (zI (wB W) 0≤most→∃h',aL (aR AP.A) bp AP.f30L2 (ay [(1,.int .i64 most),(6,sv),(7,wv),(9,.aF oid 0 n 1)] [1,6,7,9]) h=some (.ret,[(4,.aF oid 0 n 1),(5,.int .i64 0)],h')∧h'.get oid=some (ints (wU S (wB W) O))∧h'.floor=h.floor)∧
 (most<zI (wB W) 0→W≠[]→∃h',aL (aR AP.A) bp AP.f30L2 (ay [(1,.int .i64 most),(6,sv),(7,wv),(9,.aF oid 0 n 1)] [1,6,7,9]) h=some (.normal,[(1,.int .i64 most),(6,sv),(7,wv),(9,.aF oid 0 n 1)],h')∧h'.get oid=some (ints (wU S (wB W) O))∧wM 1 h' sv S.length (ints S)∧wM 1 h' wv (wT W).length (ints (wT W))∧h'.floor=h.floor∧h'.floor≤h'.next):=by
 have k1:=Kd h wv W ow.NR o
 have dl:=xD W
 have dr:=Dk o
 obtain⟨D,eD⟩:∃D,D=wB W:=⟨_,rfl⟩
 rw[←eD]at k1 dl dr ⊢
 obtain⟨hb,ehb⟩:∃g,g=h.del oid:=⟨_,rfl⟩
 have hbn:hb.get oid=none:=by rw[ehb,H.dU,if_pos rfl]
 have ext:Ext hb h:=fun i c q=>by
  rw[ehb,H.dU]at q
  split at q
  · cases q
  · exact q
 have hbk:∀i,i≠oid→hb.get i=h.get i:=fun i hi=>by rw[ehb,H.dU,if_neg hi]
 have rs:Rd hb sv (ints S):=(os.mono (by rw[ehb];simp) fun i q=>hbk i (fun e=>ns (by rw[q,e]))).NR
 have rdd:Rd hb (yx 1 W.length (ints D)) (ints D):=by
  have:=GG (n:=1) (k:=D.length) (h:=hb) (cs:=ints D) (by rw[qg];omega)
  rw[dl]at this
  exact⟨by have:=this.1;rw[qg,dl];exact this,this.2.2⟩
 obtain⟨h1,L1,g1,f1,n1,t1⟩:=Fz (mv:=.int .i64 most) (wv:=wv) (O:=O) (oid:=oid) (h:=h) (s1:=[]) (p:=[]) (q:=D) (s2:=S) (m:=0) (by omega) (dl.trans hW) (by omega) hr hb rs rdd hbn rfl rfl rfl ext hO go hfo dr (by omega)
 have L1':Lp AP.A [1,6,7,9,10,11,12] AP.f30L1 [(1,.int .i64 most),(6,sv),(7,wv),(9,.aF oid 0 n 1),(10,yx 1 W.length (ints D)),(11,.int .i64 0),(12,.int .i64 0)] h=_:=L1
 constructor
 · intro c
   refine⟨h1, ?_,g1,f1⟩
   clear L1 rs rdd os ow dr hr wr
   generalize yx 1 W.length (ints D)=dv at *
   generalize zI D 0=M at *
   simp (disch:=omega)only[go_sem,wc,AP.f30L2,k1,sX,L1',VE c]
 · intro c hne
   have hWp:0<W.length:=Wf.2 hne
   obtain⟨wid,q1,q2,q3⟩:=DN ow hWp
   have hwo:wid≠oid:=fun e=>nw (by rw[q1,e];rfl)
   have hsw:∀j,sv.id?=some j→j≠wid:=fun j hj e=>ap j hj (by rw[q1,e];rfl)
   obtain⟨h2,L2,g2,f2,n2,t2⟩:=Fg (mv:=.int .i64 most) (sv:=sv) (ov:=.aF oid 0 n 1) (n:=W.length) (wid:=wid) (by omega) W [] h1 (by simp) wr (by rw[t1 wid hwo,q2];rfl) (by omega) (by omega)
   have L2':Lp AP.A [1,6,7,9,13] AP.f30L0 [(1,.int .i64 most),(6,sv),(7,.aF wid 0 W.length 1),(9,.aF oid 0 n 1),(13,.int .i64 0)] h1=_:=L2
   have os2:wM 1 h2 sv S.length (ints S):=os.mono (by omega) fun j hj=>by
    rw[t2 j (hsw j hj),t1 j (fun e=>ns (by rw[hj,e]))]
   have ow2:wM 1 h2 wv (wT W).length (ints (wT W)):=by
    rw[yD]
    exact⟨by rw[qg,yD];omega,.inr ⟨wid,q1,by simpa using g2,by omega,hWp⟩⟩
   refine⟨h2, ?_,by rw[t2 oid hwo.symm,g1],os2,ow2,by omega,by omega⟩
   clear L1 L2 rs rdd os ow os2 ow2 dr hr wr
   rw[q1]at L1' k1 ⊢
   have c':¬zI D 0≤most:=by omega
   generalize yx 1 W.length (ints D)=dv at *
   generalize zI D 0=M at *
   simp (disch:=omega)only[go_sem,wc,AP.f30L2,k1,sX,L1',L2',VD c']
inductive xU (most:Int):Nat→List Int→Prop
 |last {W:List Int}:FD W→zI (wB W) 0≤most→xU most 0 W
 |more {K:Nat} {W:List Int}:FD W→most<zI (wB W) 0→W≠[]→xU most K (wT W)→xU most (K+1) W
theorem Kk {W:List Int} (wr:∀y∈W,0≤y∧y<1000000000000):∀y∈wT W,0≤y∧y<1000000000000:=by
 intro y hy
 obtain⟨z,hz,rfl⟩:=VN.1 hy
 have:=wr z hz
 unfold y7;omega
theorem JC {S:List Int} {sv wv:AV} {n oid:Nat} {most:Int} (hS:S.length≤288) (hn:n≤288) (hr:∀s∈S,0≤s∧s<n) (ap:Cb sv wv) (ns:sv.id?≠some oid) (nw:wv.id?≠some oid) (hm:1≤most∧most≤15):∀(K:Nat) (W O:List Int) (h:H),xU most K W→W.length=S.length→O.length=n→h.floor≤h.next→wM 1 h sv S.length (ints S)→wM 1 h wv W.length (ints W)→h.get oid=some (ints O)→h.floor≤oid→(∀y∈W,0≤y∧y<1000000000000)→
 ∃h',Lp AP.A [1,6,7,9] AP.f30L2 [(1,.int .i64 most),(6,sv),(7,wv),(9,.aF oid 0 n 1)] h=some (.ret,[(4,.aF oid 0 n 1),(5,.int .i64 0)],h')∧h'.get oid=some (ints (yR S K W O))∧h'.floor=h.floor
 | 0, W, O, h, r, hW, hO, hfl, os, ow, go, hfo, wr => by
   cases r with
   | last o c =>
     obtain⟨h',k,g,f⟩:=(LN hW hS hn hO hr hfl os ow go hfo ap ns nw o hm wr).1 c
     exact⟨h',uz k,g,f⟩
 | K + 1, W, O, h, r, hW, hO, hfl, os, ow, go, hfo, wr => by
   cases r with
   | more o c hne r =>
     obtain⟨h1,k,g,os1,ow1,f,fl⟩:=(LN hW hS hn hO hr hfl os ow go hfo ap ns nw o hm wr).2 c hne
     obtain⟨h',k2,g2,f2⟩:=JC hS hn hr ap ns nw hm K (wT W) _ h1 r (by rw[yD,hW]) (by rw[xw,hO]) fl os1 ow1 g (by omega) (Kk wr)
     exact⟨h',tX k k2,g2,by omega⟩
def zS (S:List Int):List Int:=if S.length=1 then(if 0<S.getD 0 0 then [0,S.getD 0 0]else S++[1])else S
def Bd (S W:List Int):List Int:=if S.length=1 then(if 0<S.getD 0 0 then [1,W.getD 0 0]else W++[1])else W
theorem Nq {S W:List Int} (h:W.length=S.length):(Bd S W).length=(zS S).length:=by
 unfold Bd zS
 split
 · split
   · rfl
   · simp [h]
 · exact h
theorem T6 {x : AV} {most : Int} {S W : List Int} {h : H} {sv wv : AV} (hl : W.length = S.length) (hS : S.length ≤ 288) (hfl : h.floor ≤ h.next) (os : wM 1 h sv S.length (ints S)) (ow : wM 1 h wv W.length (ints W)) (ap : Cb sv wv) :
 ∃h' sv' wv',aL (aR AP.A) bp (at_ 4 AP.f30.body) [(0,x),(1,.int .i64 most),(6,sv),(7,wv)] h=some (.normal,[(0,x),(1,.int .i64 most),(6,sv'),(7,wv')],h')∧wM 1 h' sv' (zS S).length (ints (zS S))∧wM 1 h' wv' (Bd S W).length (ints (Bd S W))∧Cb sv' wv'∧h'.floor=h.floor∧h'.floor≤h'.next:=by
 have ln:=os.rd.len
 by_cases c1:S.length=1
 · obtain⟨s0,rfl⟩:∃s,S=[s]:=by
    match S,c1 with
    |[s],_=>exact⟨s,rfl⟩
   obtain⟨w0,rfl⟩:∃s,W=[s]:=by
    match W,hl with
    |[s],_=>exact⟨s,rfl⟩
   obtain⟨sid,q1,q2,q3⟩:=DN os (by simp)
   obtain⟨wid,p1,p2,p3⟩:=DN ow (by simp)
   simp only[Vy,VC,ints,VK,Wk,I]at q1 q2 p1 p2
   subst q1
   subst p1
   by_cases c2:0<s0
   · have e1:zS [s0]=[0,s0]:=by simp [zS,c2]
     have e2:Bd [s0] [w0]=[1,w0]:=by simp [Bd,c2]
     rw[e1,e2]
     refine⟨(h.alloc [.int .i64 0,.int .i64 s0]).alloc [.int .i64 1,.int .i64 w0],.aF h.next 0 2 1,.aF (h.next+1) 0 2 1, ?_,⟨rfl,.inr ⟨h.next,rfl, ?_,by simpa using hfl,by simp⟩⟩,⟨rfl,.inr ⟨h.next+1,rfl, ?_,by simp;omega,by simp⟩⟩, ?_,by simp,by simp;omega⟩
     · have w2:=h.lt _ _ p2
       simp (disch:=first|omega|(simp only[wY,Vy,VC,vF,Nat.reduceAdd];first|done|omega|fail)|(simp (disch:=first|omega|(simp only[wY,Vy,VC,vF,Nat.reduceAdd];first|done|omega|fail)|fail)only[wY,zX,VG,Vy,VC,vF,Nat.reduceAdd];done)|fail)only[go_sem,wc,zW,AP.f30,q2,p2,VE c2]
     · rw[v8 (by simp),wh rfl];rfl
     · rw[wh (by simp)];rfl
     · intro j hj e;have:=vm hj;have:=vm e;omega
   · have e1:zS [s0]=[s0,1]:=by simp [zS,c2]
     have e2:Bd [s0] [w0]=[w0,1]:=by simp [Bd,c2]
     rw[e1,e2]
     obtain⟨v1,h1,a1,a2,a3,a4,a5,a6⟩:=os.push hfl (z:=8) (m:=1) (by omega) (by omega) [.int .i64 1] rfl rfl (xK (by simp))
     have ow1:wM 1 h1 (.aF wid 0 1 1) 1 (ints [w0]):=ow.mono a3 fun j hj=>a5 j (fun e=>ap j e hj) (ow.lt hj).2
     obtain⟨v2,h2,b1,b2,b3,b4,b5,b6⟩:=ow1.push (by omega) (z:=8) (m:=1) (by omega) (by omega) [.int .i64 1] rfl rfl (xK (by simp))
     refine⟨h2,v1,v2, ?_, ?_,b2,fun j hj e=>by rw[a6]at hj;rw[b6]at e;have:=vm hj;have:=vm e;omega,by omega,by omega⟩
     · clear os ow ow1 ap a2 b2 a5 b5
       simp only[Vy,VC]at a1 b1 ln
       simp (disch:=omega)only[go_sem,wc,AP.f30,xL,xO,ln,q2,p2,a1,b1,VD c2]
     · exact a2.mono b3 fun j hj=>b5 j (fun e=>by rw[a6]at hj;have:=vm hj;have:=vm e;have:=h.lt _ _ p2;omega) (a2.lt hj).2
 · have e1:zS S=S:=by simp [zS,c1]
   have e2:Bd S W=W:=by simp [Bd,c1]
   rw[e1,e2]
   refine⟨h,sv,wv, ?_,os,ow,ap,rfl,hfl⟩
   have c1':¬((S.length:Int)=1):=by omega
   clear os ow ap
   simp (disch:=omega)only[go_sem,wc,AP.f30,xL,xO,ln]
theorem wP:∀(i:Nat) (C:List Int),(wg i C).length=(wq C).length
 |i,[]=>rfl
 | i, c :: r => by
   rw[wg,wq]
   split
   · simp [wP (i+1) r]
   · exact wP (i+1) r
theorem xE:∀(i:Nat) (C:List Int),(wg i C).length≤C.length
 |i,[]=>vB _
 | i, c :: r => by
   have:=xE (i+1) r
   rw[wg]
   split<;>simp<;>omega
theorem xY:∀(i:Nat) (C:List Int),∀s∈wg i C,(i:Int)≤s∧s<i+C.length
 |i,[],s,h=>by simp [wg]at h
 | i, c :: r, s, h => by
   rw[wg]at h
   split at h
   · rcases vR.1 h with q|q
     · subst q;simp;omega
     · have:=xY (i+1) r s q;simp only[Vy];omega
   · have:=xY (i+1) r s h;simp only[Vy];omega
theorem yX:∀(C:List Int),∀y∈wq C,y∈C∧0<y
 |[],y,h=>by simp [wq]at h
 | c :: r, y, h => by
   rw[wq]at h
   split at h
   · rcases vR.1 h with q|q
     · subst q;exact⟨by simp,by assumption⟩
     · have:=yX r y q;exact⟨by simp [this.1],this.2⟩
   · have:=yX r y h;exact⟨by simp [this.1],this.2⟩
theorem HZ {S : List Int} {n : Nat} (hn : 2 ≤ n) (h : ∀ s ∈ S, 0 ≤ s ∧ s < n) : ∀ s ∈ zS S, 0 ≤ s ∧ s < n := by
 intro s hs
 unfold zS at hs
 split at hs
 · split at hs
   · rename_i h1 h2
     rcases vR.1 hs with q|q
     · subst q;omega
     · simp at q
       subst q
       match S,h1 with
       |[t],_=>exact h t (by simp)
   · rcases VY.1 hs with q|q
     · exact h s q
     · simp at q;subst q;omega
 · exact h s hs
theorem L9 {S W : List Int} (hl : W.length = S.length) (h : ∀ y ∈ W, 0 ≤ y ∧ y < 1000000000000) : ∀ y ∈ Bd S W, 0 ≤ y ∧ y < 1000000000000 := by
 intro s hs
 unfold Bd at hs
 split at hs
 · split at hs
   · rename_i h1 h2
     rcases vR.1 hs with q|q
     · subst q;omega
     · simp at q
       subst q
       rw[←hl]at h1
       match W,h1 with
       |[t],_=>exact h t (by simp)
   · rcases VY.1 hs with q|q
     · exact h s q
     · simp at q;subst q;omega
 · exact h s hs
theorem Du {S:List Int} {n:Nat} (hn:2≤n) (h:S.length≤n):(zS S).length≤n:=by
 unfold zS
 split
 · split
   · simpa using hn
   · simp;omega
 · exact h
theorem xV (n:Nat):yo n [.int .i64 0]=ints (List.replicate n 0):=by
 unfold yo;rw[GH];simp [ints,I]
def xn (C:List Int):List Int:=zS (wg 0 C)
def xA (C:List Int):List Int:=Bd (wg 0 C) (wq C)
theorem Gi (C:List Int):(xA C).length=(xn C).length:=Nq (wP 0 C).symm
def xh (C:List Int) (K:Nat):List Int:=yR (xn C) K (xA C) (List.replicate C.length 0)
theorem BV (h:H) (x:AV) (C:List Int) (m K:Nat) (h2:2≤C.length) (hn:C.length≤288) (rd:Rd h x (ints C)) (hm:1≤m∧m≤15) (hr:∀y∈C,0≤y∧y≤2147483647) (hs:(xn C).length≤2^m) (ro:xU m K (xA C)):
 aR AP.A 30 [x,.int .i64 m] h=some (.bL [yx 1 C.length (ints (xh C K)),.int .i64 0],h):=by
 have yO:Rd h.dQ x (ints C):=rd.mono (wo h)
 have ln:=rd.len
 rw[qg]at ln
 simp only[I]at ln
 obtain⟨h1,sv,wv,L1,os,ow,ap,f1,fl1⟩:=En (mv:=.int .i64 m) (by omega) hr h.dQ yO C [] [] [] h.dQ .aP .aP rfl (Ext.refl _) rfl (by simp) wM.nil wM.nil (fun j hj=>by simp [AV.id?]at hj) (by simp) (by simp)
 have L1':Lp AP.A [0,1,6,7,8] AP.f30L3 [(0,x),(1,.int .i64 m),(6,.aP),(7,.aP),(8,.int .i64 0)] h.dQ=_:=L1
 simp only[Wd,VC]at os ow
 have sl:=xE 0 C
 obtain⟨h2',sv2,wv2,P,os2,ow2,ap2,f2,fl2⟩:=T6 (x:=x) (most:=m) (wP 0 C).symm (by omega) fl1 os ow ap
 change wM 1 h2' sv2 (xn C).length (ints (xn C))at os2
 change wM 1 h2' wv2 (xA C).length (ints (xA C))at ow2
 have hSl:(xn C).length≤C.length:=Du h2 sl
 have hSr:∀s∈xn C,0≤s∧s<C.length:=HZ h2 fun s hs=>by have:=xY 0 C s hs;omega
 have hWr:∀y∈xA C,0≤y∧y<1000000000000:=L9 (wP 0 C).symm fun y hy=>by
  have:=hr y (yX C y hy).1;omega
 have hWS:=Gi C
 obtain⟨h3,eh3⟩:∃g,g=h2'.alloc (yo C.length [.int .i64 0]):=⟨_,rfl⟩
 have g3:h3.get h2'.next=some (ints (List.replicate C.length 0)):=by rw[eh3,wh rfl,xV]
 have os3:wM 1 h3 sv2 (xn C).length (ints (xn C)):=os2.mono (by rw[eh3];simp) fun j hj=>by rw[eh3,v8 (by have:=(os2.lt hj).2;omega)]
 have ow3:wM 1 h3 wv2 (xA C).length (ints (xA C)):=ow2.mono (by rw[eh3];simp) fun j hj=>by rw[eh3,v8 (by have:=(ow2.lt hj).2;omega)]
 have fl3:h3.floor=h.next:=by rw[eh3];simp [f2,f1]
 obtain⟨h4,L4,g4,f4⟩:=JC (n:=C.length) (oid:=h2'.next) (most:=m) (by omega) hn hSr ap2 (fun q=>by have:=(os2.lt q).2;omega) (fun q=>by have:=(ow2.lt q).2;omega) (by omega) K (xA C) (List.replicate C.length 0) h3 ro hWS (by simp) (by rw[eh3];simp;omega) os3 ow3 g3 (by rw[eh3];simp;omega) hWr
 have s1:pP .shl .i64 1 (m:Int)=some (.int .i64 ((2^m:Nat):Int)):=by
  have:=yL (a:=1) (s:=m) (by omega) (by
   have:2^m≤2^15:=VO (by omega) hm.2
   omega)
  rwa [Nat.one_mul]at this
 have lS:jg false sv2=some (.int .i64 (xn C).length):=os2.rd.len
 have t5:aL (aR AP.A) bp (JT 5 AP.f30.body) [(0,x),(1,.int .i64 m),(6,sv2),(7,wv2)] h2'=some (.ret,[(4,.aF h2'.next 0 C.length 1),(5,.int .i64 0)],h4):=by
  clear os ow os2 ow2 os3 ow3 rd yO hSr hWr ro hr L1 P
  generalize 2^m=M at *
  generalize (xn C).length=sL at *
  simp (disch:=omega)only[go_sem,wc,AP.f30,MD,MC,lS,s1,ln,←eh3,sX,L4]
 have lo:(xh C K).length=C.length:=by
  unfold xh
  have:∀(K:Nat) (S W O:List Int),(yR S K W O).length=O.length:=by
   intro K
   induction K with
   |zero=>intro S W O;rw[yR,xw]
   |succ K ih=>intro S W O;rw[yR,ih,xw]
  rw[this];simp
 have ow4:wM 1 h4 (.aF h2'.next 0 C.length 1) C.length (ints (xh C K)):=⟨by rw[qg,lo];omega,.inr ⟨h2'.next,rfl,g4,by rw[f4,fl3];have:=fl2;rw[f2,f1]at this;simpa using this,by omega⟩⟩
 refine uL (fn:=AP.f30) (h2:=h4) (e:=[(4,.aF h2'.next 0 C.length 1),(5,.int .i64 0)]) (vs:=[.aF h2'.next 0 C.length 1,.int .i64 0]) rfl rfl rfl ?_ rfl ?_
 · have hb:AP.f30.body=.seq (at_ 0 AP.f30.body) (.seq (at_ 1 AP.f30.body) (.seq (at_ 2 AP.f30.body) (.seq (at_ 3 AP.f30.body) (.seq (at_ 4 AP.f30.body) (JT 5 AP.f30.body))))):=rfl
   have a0:aL (aR AP.A) bp (at_ 0 AP.f30.body) (params 0 [x,.int .i64 m]) h.dQ=some (.normal,[(0,x),(1,.int .i64 m)],h.dQ):=by
    simp (disch:=omega)only[go_sem,wc,AP.f30,xL,xO]
   have a1:aL (aR AP.A) bp (at_ 1 AP.f30.body) [(0,x),(1,.int .i64 m)] h.dQ=some (.normal,[(0,x),(1,.int .i64 m)],h.dQ):=by
    clear os ow os2 ow2 os3 ow3 rd yO hSr hWr ro hr L1 P t5
    simp (disch:=omega)only[go_sem,wc,AP.f30,xL,xO,ln]
   have a2:aL (aR AP.A) bp (at_ 2 AP.f30.body) [(0,x),(1,.int .i64 m)] h.dQ=some (.normal,[(0,x),(1,.int .i64 m),(6,.aP),(7,.aP)],h.dQ):=by
    simp (disch:=omega)only[go_sem,wc,AP.f30,xL,xO]
   have a3:aL (aR AP.A) bp (at_ 3 AP.f30.body) [(0,x),(1,.int .i64 m),(6,.aP),(7,.aP)] h.dQ=some (.normal,[(0,x),(1,.int .i64 m),(6,sv),(7,wv)],h1):=by
    simp (disch:=omega)only[go_sem,wc,AP.f30,xL,xO,sX,L1']
   rw[hb,sI,a0,tB,sI,a1,tB,sI,a2,tB,sI,a3,tB,sI,P,tB,t5]
 · have s1:=ow4.yj (fl:=h.next) (m:=13) (t:=true) (by omega)
   show(fF (snap h4.get h.next 15 true) [.aF h2'.next 0 C.length 1,.int .i64 0]).bind _=_
   simp only[fF,s1,vu]
   rfl
theorem El (W : List Int) (F : List Bool) : ∀ (m i : Nat) (a : Int), (a = -1 ∧ (∀ j, j < i → F.getD j false = false)) ∨ (∃ k : Nat, a = k ∧ k < i ∧ F.getD k false = true ∧ ∀ j, j < i → F.getD j false = true → W.getD k 0 ≤ W.getD j 0) →
 (xq W F m i a= -1∧(∀j,j<i+m→F.getD j false=false))∨(∃k:Nat,xq W F m i a=k∧k<i+m∧F.getD k false=true∧∀j,j<i+m→F.getD j false=true→W.getD k 0≤W.getD j 0)
 |0,i,a,h=>by simpa [xq]using h
 | m + 1, i, a, h => by
   rw[xq]
   have e:i+(m+1)=i+1+m:=by omega
   rw[e]
   refine El W F m (i+1) _ ?_
   by_cases c:F.getD i false=true∧(a<0∨W.getD i 0<W.getD a.toNat 0)
   · rw [if_pos c]
     refine .inr ⟨i,rfl,by omega,c.1,fun j hj hf=> ?_⟩
     by_cases q:j=i
     · subst q;exact Wi _
     · rcases h with ⟨_,h2⟩|⟨k,rfl,h1,h2,h3⟩
       · rw[h2 j (by omega)]at hf;cases hf
       · have:=h3 j (by omega) hf
         have tk:((k:Nat):Int).toNat=k:=by omega
         rw[tk]at c
         have:=c.2
         omega
   · rw [if_neg c]
     rcases h with ⟨rfl,h2⟩|⟨k,rfl,h1,h2,h3⟩
     · refine .inl ⟨rfl,fun j hj=> ?_⟩
       by_cases q:j=i
       · subst q
         cases e:F.getD j false with
         |false=>rfl
         |true=>exact absurd ⟨e,.inl (by omega)⟩ c
       · exact h2 j (by omega)
     · refine .inr ⟨k,rfl,by omega,h2,fun j hj hf=> ?_⟩
       by_cases q:j=i
       · subst q
         have tk:((k:Nat):Int).toNat=k:=by omega
         rw[tk]at c
         have:¬(W.getD j 0<W.getD k 0):=fun x=>c ⟨hf,.inr x⟩
         omega
       · exact h3 j (by omega) hf
theorem BT {W:List Int} {F:List Bool} (hl:F.length=W.length) {i:Nat} (hi:F.getD i false=true):0≤xq W F W.length 0 (-1)∧wZ W F<W.length∧F.getD (wZ W F) false=true∧∀j,F.getD j false=true→W.getD (wZ W F) 0≤W.getD j 0:=by
 have hiL:∀j,F.getD j false=true→j<F.length:=by
  intro j hj
  rw[Vx]at hj
  cases e:F[j]? with
  |none=>rw[e]at hj;cases hj
  |some b=>exact(vt.1 e).1
 rcases El W F W.length 0 (-1) (.inl ⟨rfl,fun j hj=>by omega⟩)with ⟨_,h2⟩|⟨k,h1,h2,h3,h4⟩
 · have:=h2 i (by have:=hiL i hi;omega)
   rw[hi]at this;cases this
 · have ek:wZ W F=k:=by unfold wZ;rw[h1];omega
   rw[ek]
   exact⟨by omega,by omega,h3,fun j hj=>h4 j (by have:=hiL j hj;omega) hj⟩
def Nt (U:List Int):Nat→Nat→Nat→Prop
 |0,i,r=>i=r
 |d+1,i,r=>∃j:Nat,U[i]?=some (j:Int)∧Nt U d j r
theorem Ev {U:List Int}:∀{d i r:Nat} {j:Nat},Nt U d i r→U[r]?=some (j:Int)→Nt U (d+1) i j
 | 0, i, r, j, h, hj => by
   have:i=r:=h
   subst this
   exact⟨j,hj,rfl⟩
 |d+1,i,r,j,⟨k,h1,h2⟩,hj=>⟨k,h1,Ev h2 hj⟩
theorem GC {U:List Int} (up:EX U):∀{d i r:Nat},Nt U d i r→U.getD r (-1)= -1→∀m,d≤m→zT U m (U.getD i (-1))=d
 | 0, i, r, h, hr, m, hm => by
   have:i=r:=h
   subst this
   rw[hr]
   cases m with
   |zero=>rfl
   |succ m=>rw[zT,if_neg (by omega)]
 | d + 1, i, r, ⟨j, h1, h2⟩, hr, m, hm => by
   obtain⟨m,rfl⟩:∃k,m=k+1:=⟨m-1,by omega⟩
   have e:U.getD i (-1)=(j:Int):=by rw[Vx,h1];rfl
   rw[e,zT,if_pos (by omega)]
   have tj:((j:Nat):Int).toNat=j:=by omega
   rw[tj,GC up h2 hr m (by omega)]
theorem GB {U:List Int} (up:EX U):∀{d i r:Nat},Nt U d i r→i+d≤r
 | 0, i, r, h => by
   have:i=r:=h
   omega
 | d + 1, i, r, ⟨j, h1, h2⟩ => by
   have:=GB up h2
   have hi:=(vt.1 h1).1
   have e:U.getD i (-1)=(j:Int):=by rw[Vx,h1];rfl
   have:=up i hi
   rw[e]at this
   omega
def zH (U:List Int) (a b:Nat):List Int:=(U.set a U.length).set b U.length++[-1]
theorem Fo (U:List Int) (a b:Nat):(zH U a b).length=U.length+1:=by simp [zH]
theorem CR {U:List Int} {a b i:Nat} (hi:i<U.length) (ha:a≠i) (hb:b≠i):(zH U a b)[i]?=U[i]?:=by
 unfold zH
 rw[VQ (by simpa using hi),VV,if_neg hb,VV,if_neg ha]
theorem Jx {U:List Int} {a b:Nat} (ha:a<U.length):(zH U a b)[a]?=some (U.length:Int):=by
 unfold zH
 rw[VQ (by simpa using ha),VV]
 split
 · rename_i e;subst e;simp [ha]
 · rw[VV,if_pos rfl,if_pos ha]
theorem Jy {U:List Int} {a b:Nat} (hb:b<U.length):(zH U a b)[b]?=some (U.length:Int):=by
 unfold zH
 rw[VQ (by simpa using hb),VV,if_pos rfl,if_pos (by simpa using hb)]
theorem Jz {U:List Int} {a b:Nat}:(zH U a b)[U.length]?=some (-1):=by
 unfold zH
 rw[VL (by simp)];simp
theorem CE {U:List Int} {a b:Nat} (ha:U[a]?=some (-1)) (hb:U[b]?=some (-1)):∀{d i r:Nat},Nt U d i r→Nt (zH U a b) d i r
 |0,i,r,h=>h
 | d + 1, i, r, ⟨j, h1, h2⟩ => by
   refine⟨j, ?_,CE ha hb h2⟩
   rw[CR (vt.1 h1).1 (fun e=>by rw[e,h1]at ha;have:=vm ha;omega) (fun e=>by rw[e,h1]at hb;have:=vm hb;omega),h1]
theorem KP {U : List Int} {a b : Nat} (ha : a < U.length) (hb : b < U.length) (up : EX U) : EX (zH U a b) := by
 intro j hj
 rw[Fo]at hj ⊢
 by_cases e:j=U.length
 · subst e
   left
   rw[Vx,Jz];rfl
 · by_cases ea:a=j
   · subst ea
     right
     rw[Vx,Jx ha]
     simp;omega
   · by_cases eb:b=j
     · subst eb
       right
       rw[Vx,Jy hb]
       simp;omega
     · have:=up j (by omega)
       rw[Vx,CR (by omega) ea eb,←Vx]
       omega
theorem FS.Td (s:FS):s.ET.U=zH s.U s.a s.b:=rfl
abbrev Tr:=Nat×List (Nat×Nat)
def kr (D:Nat) (l:List (Nat×Nat)):Nat:=(l.map fun p=>2^(D-p.2)).sum
structure z4 (bal:Bool) (n:Nat) (tot:Int) (s:FS) (T:List Tr):Prop where
 lu:s.U.length=s.W.length
 lf:s.F.length=s.W.length
 root:∀t∈T,s.F.getD t.1 false=true∧s.U[t.1]?=some (-1)
 free:∀i,s.F.getD i false=true→∃t∈T,t.1=i
 nd:(T.map (·.1)).Nodup
 pt:∀t∈T,∀p∈t.2,Nt s.U p.2 p.1 t.1
 leaves:(T.flatMap fun t=>t.2.map (·.1)).Perm (List.range n)
 Ek:∀t∈T,∀D,(∀p∈t.2,p.2≤D)→kr D t.2=2^D
 ne:∀t∈T,t.2≠[]
 Je:∀t∈T,1≤s.W.getD t.1 0
 up:EX s.U
 sum:(T.map fun t=>s.W.getD t.1 0).sum=tot
 MR:bal=true→∀t∈T,∀u∈T,s.W.getD t.1 0≤2* s.W.getD u.1 0
 J5:bal=true→∀t∈T,∀p∈t.2,(3:Int)^p.2≤s.W.getD t.1 0* 2^p.2
theorem KD {l l':List Int} (p:l.Perm l'):l.sum=l'.sum:=by
 induction p with
 |nil=>rfl
 |cons x _ ih=>simp only[V5,ih]
 |swap x y l=>simp only[V5];omega
 |trans _ _ h1 h2=>exact h1.trans h2
theorem FI {l l':List Nat} (p:l.Perm l'):l.sum=l'.sum:=by
 induction p with
 |nil=>rfl
 |cons x _ ih=>simp only[V5,ih]
 |swap x y l=>simp only[V5];omega
 |trans _ _ h1 h2=>exact h1.trans h2
theorem z4.perm {bal:Bool} {n:Nat} {tot:Int} {s:FS} {T T':List Tr} (v:z4 bal n tot s T) (p:T.Perm T'):z4 bal n tot s T' where
 lu:=v.lu
 lf:=v.lf
 root t h:=v.root t (p.mem_iff.2 h)
 free i h:=by
  obtain⟨t,h1,h2⟩:=v.free i h
  exact⟨t,p.mem_iff.1 h1,h2⟩
 nd:=(p.map _).nodup_iff.1 v.nd
 pt t h:=v.pt t (p.mem_iff.2 h)
 leaves:=((p.flatMap_right _).symm).trans v.leaves
 Ek t h:=v.Ek t (p.mem_iff.2 h)
 ne t h:=v.ne t (p.mem_iff.2 h)
 Je t h:=v.Je t (p.mem_iff.2 h)
 up:=v.up
 sum:=by rw[←v.sum];exact(KD (p.map _)).symm
 MR hb t h u h2:=v.MR hb t (p.mem_iff.2 h) u (p.mem_iff.2 h2)
 J5 hb t h:=v.J5 hb t (p.mem_iff.2 h)
def yK (l:List (Nat×Nat)):List (Nat×Nat):=l.map fun p=>(p.1,p.2+1)
theorem Kn {D:Nat} {l:List (Nat×Nat)}:kr (D+1) (yK l)=kr D l:=by
 unfold kr yK
 rw[List.map_map]
 congr 1
 refine V7 fun p _=> ?_
 show 2^(D+1-(p.2+1))=_
 rw[Nat.add_sub_add_right]
theorem Qn (D:Nat) (a b:List (Nat×Nat)):kr D (a++b)=kr D a+kr D b:=by simp [kr]
theorem getD_set_ne {α:Type} {l:List α} {i j:Nat} {x d:α} (h:i≠j):(l.set i x).getD j d=l.getD j d:=by
 rw[Vx,VV,if_neg h,←Vx]
theorem AB {l:List Bool} {i:Nat}:(l.set i false).getD i false=false:=by
 rw[Vx,VV,if_pos rfl]
 split<;>rfl
theorem z4.two {bal:Bool} {n:Nat} {tot:Int} {s:FS} {T:List Tr} (v:z4 bal n tot s T) (h2:2≤T.length):
 ∃ta tb T2,T.Perm (ta::tb::T2)∧ta.1=s.a∧tb.1=s.b∧0≤xq s.W s.F s.W.length 0 (-1)∧0≤xq s.W s.F1 s.W.length 0 (-1)∧s.W.getD s.a 0≤s.W.getD s.b 0∧(∀t∈T2,s.W.getD s.b 0≤s.W.getD t.1 0):=by
 obtain⟨t0,t1,T0,rfl⟩:∃t0 t1 T0,T=t0::t1::T0:=by
  match T,h2 with
  |t0::t1::T0,_=>exact⟨t0,t1,T0,rfl⟩
 obtain⟨l1,la,fa,ma⟩:=BT v.lf (v.root t0 (by simp)).1
 obtain⟨ta,hta,ea⟩:=v.free _ fa
 have p1:=List.perm_cons_erase hta
 have v1:=v.perm p1
 obtain⟨T1,eT1⟩:∃T1,T1=(t0::t1::T0).erase ta:=⟨_,rfl⟩
 rw[←eT1]at p1 v1
 have lT1:T1≠[]:=by
  intro e
  have:=p1.length_eq
  rw[e]at this
  simp at this
 obtain⟨tx,hx⟩:=List.exists_mem_of_ne_nil _ lT1
 have nd1:∀t∈T1,t.1≠ta.1:=by
  intro t ht e
  have:=v1.nd
  rw[VK,Wm]at this
  exact this.1 (VN.2 ⟨t,ht,e⟩)
 have f1:∀t∈T1,s.F1.getD t.1 false=true:=by
  intro t ht
  have:=(v1.root t (by simp [ht])).1
  show(s.F.set s.a false).getD t.1 false=true
  rw[getD_set_ne (by have:=nd1 t ht;intro e;exact this (by rw[ea,←e];rfl)),this]
 obtain⟨l2,lb,fb,mb⟩:=BT (W:=s.W) (F:=s.F1) (by show(s.F.set s.a false).length=_;rw[VT];exact v.lf) (f1 tx hx)
 have hnb:s.a≠s.b:=by
  intro e
  have fb':s.F1.getD s.b false=true:=fb
  rw[←e]at fb'
  have:(s.F.set s.a false).getD s.a false=true:=fb'
  rw[AB]at this;cases this
 have fb2:s.F.getD s.b false=true:=by
  have fb':(s.F.set s.a false).getD s.b false=true:=fb
  rwa [getD_set_ne hnb]at fb'
 obtain⟨tb,htb,eb⟩:=v1.free _ fb2
 have htb1:tb∈T1:=by
  rcases vR.1 htb with q|q
  · subst q;exact absurd (ea.symm.trans eb) hnb
  · exact q
 have p2:=List.perm_cons_erase htb1
 refine⟨ta,tb,T1.erase tb,p1.trans (p2.cons ta),ea,eb,l1,l2,ma _ fb2,fun t ht=>mb _ (f1 t (List.mem_of_mem_erase ht))⟩
theorem z4.Mw {bal : Bool} {n : Nat} {tot : Int} {s : FS} {T T2 : List Tr} {ta tb : Tr} (v : z4 bal n tot s T) (p : T.Perm (ta :: tb :: T2)) (ea : ta.1 = s.a) (eb : tb.1 = s.b) (l1 : 0 ≤ xq s.W s.F s.W.length 0 (-1)) (l2 : 0 ≤ xq s.W s.F1 s.W.length 0 (-1)) (wab : s.W.getD s.a 0 ≤ s.W.getD s.b 0) (wbt : ∀ t ∈ T2, s.W.getD s.b 0 ≤ s.W.getD t.1 0) (ht : tot < 1000000000000000) : s.ok ∧ z4 bal n tot s.ET ((s.U.length, yK (ta.2 ++ tb.2)) :: T2) := by
 have lT:=p.length_eq
 have v1:=v.perm p
 have nd:=v1.nd
 rw[VK,VK,Wm,Wm]at nd
 obtain⟨nd1,nd2,nd3⟩:=nd
 have ra:=v1.root ta (by simp)
 have rb:=v1.root tb (by simp)
 rw[ea]at ra
 rw[eb]at rb
 have hla:s.a<s.U.length:=(vt.1 ra.2).1
 have hlb:s.b<s.U.length:=(vt.1 rb.2).1
 have wa:=v1.Je ta (by simp)
 have wb1:=v1.Je tb (by simp)
 rw[ea]at wa
 rw[eb]at wb1
 have sm:=v1.sum
 rw[VK,VK,V5,V5,ea,eb]at sm
 have nn:0≤(T2.map fun t=>s.W.getD t.1 0).sum:=by
  have:∀l:List Tr,(∀t∈l,1≤s.W.getD t.1 0)→0≤(l.map fun t=>s.W.getD t.1 0).sum:=by
   intro l
   induction l with
   |nil=>intro _;simp
   |cons x l ih=>intro h;have:=ih fun t ht=>h t (by simp [ht]);have:=h x (by simp);simp only[VK,V5];omega
  exact this T2 fun t ht=>v1.Je t (by simp [ht])
 have es:s.sum=s.W.getD s.a 0+s.W.getD s.b 0:=rfl
 refine⟨⟨v.lu,v.lf,l1,l2,by omega⟩, ?_⟩
 have nT2:∀t∈T2,t.1≠s.a∧t.1≠s.b∧t.1<s.U.length:=fun t ht=>⟨fun e=>nd1 (by simp only[vR,VN];exact .inr ⟨t,ht,by rw[e,ea]⟩),fun e=>nd2 (VN.2 ⟨t,ht,by rw[e,eb]⟩),(vt.1 (v1.root t (by simp [ht])).2).1⟩
 have mW:∀i,i<s.W.length→s.ET.W.getD i 0=s.W.getD i 0:=fun i hi=>by
  show(s.W++[s.sum]).getD i 0=_
  rw[Vx,VQ hi,←Vx]
 have mWn:s.ET.W.getD s.U.length 0=s.sum:=by
  show(s.W++[s.sum]).getD s.U.length 0=_
  rw[v.lu,Vx,VL (vB _)];simp
 have lF2:s.F2.length=s.W.length:=by show((s.F.set s.a false).set s.b false).length=_;rw[VT,VT,v.lf]
 have mF:∀i,i<s.W.length→s.ET.F.getD i false=s.F2.getD i false:=fun i hi=>by
  show(s.F2++[true]).getD i false=_
  rw[Vx,VQ (by omega),←Vx]
 have mFn:s.ET.F.getD s.U.length false=true:=by
  show(s.F2++[true]).getD s.U.length false=_
  rw[v.lu,Vx,VL (by omega),lF2];simp
 have F2o:∀i,i≠s.a→i≠s.b→s.F2.getD i false=s.F.getD i false:=fun i h1 h2=>by
  show((s.F.set s.a false).set s.b false).getD i false=_
  rw[getD_set_ne h2.symm,getD_set_ne h1.symm]
 have F2a:s.a≠s.b→s.F2.getD s.a false=false:=fun h=>by
  show((s.F.set s.a false).set s.b false).getD s.a false=_
  rw[getD_set_ne h.symm,AB]
 have F2b:s.F2.getD s.b false=false:=AB
 have hab:s.a≠s.b:=fun e=>nd1 (by simp only[vR];exact .inl (by rw[ea,eb,e]))
 have jl:∀p∈ta.2++tb.2,Nt (zH s.U s.a s.b) (p.2+1) p.1 s.U.length:=fun q hq=>by
  rcases VY.1 hq with h|h
  · have:=v1.pt ta (by simp) q h
    rw[ea]at this
    exact Ev (CE ra.2 rb.2 this) (Jx hla)
  · have:=v1.pt tb (by simp) q h
    rw[eb]at this
    exact Ev (CE ra.2 rb.2 this) (Jy hlb)
 have lu:=v.lu
 have lf:=v.lf
 have getT2:∀t∈T2,s.ET.W.getD t.1 0=s.W.getD t.1 0:=fun t ht=>mW _ (by have:=(nT2 t ht).2.2;omega)
 have W2:∀t∈(s.U.length,yK (ta.2++tb.2))::T2,(t.1=s.U.length∧t.2=yK (ta.2++tb.2)∧s.ET.W.getD t.1 0=s.sum)∨(t∈T2∧s.ET.W.getD t.1 0=s.W.getD t.1 0):=fun t ht=>by
  rcases vR.1 ht with q|q
  · subst q;exact .inl ⟨rfl,rfl,mWn⟩
  · exact .inr ⟨q,getT2 t q⟩
 constructor
 · show(zH s.U s.a s.b).length=(s.W++[s.sum]).length
   rw[Fo];simp [lu]
 · show(s.F2++[true]).length=(s.W++[s.sum]).length
   simp [lF2]
 · intro t ht
   rcases vR.1 ht with q|q
   · subst q
     exact⟨mFn,Jz⟩
   · have n:=nT2 t q
     have r:=v1.root t (by simp [q])
     refine⟨by rw[mF _ (by omega),F2o _ n.1 n.2.1];exact r.1, ?_⟩
     rw[FS.Td,CR n.2.2 n.1.symm n.2.1.symm];exact r.2
 · intro i hi
   by_cases e:i=s.U.length
   · exact⟨_,List.mem_cons_self ..,e.symm⟩
   · have hiL:i<s.W.length:=by
      apply VX
      intro c
      have:s.ET.F.length=s.W.length+1:=by show(s.F2++[true]).length=_;simp [lF2]
      rw[Vx,VS (by omega)]at hi
      cases hi
     rw[mF i hiL]at hi
     have h1:i≠s.a:=fun q=>by rw[q,F2a hab]at hi;cases hi
     have h2:i≠s.b:=fun q=>by rw[q,F2b]at hi;cases hi
     rw[F2o i h1 h2]at hi
     obtain⟨t,ht,et⟩:=v1.free i hi
     rcases vR.1 ht with q|q
     · subst q;exact absurd (et.symm.trans ea) h1
     · rcases vR.1 q with q|q
       · subst q;exact absurd (et.symm.trans eb) h2
       · exact⟨t,Wb _ q,et⟩
 · rw[VK,Wm]
   refine⟨fun hm=> ?_,nd3⟩
   obtain⟨t,ht,e⟩:=VN.1 hm
   have:=(nT2 t ht).2.2
   rw[e]at this
   exact absurd this (by simp)
 · intro t ht
   rcases vR.1 ht with q|q
   · subst q
     intro q hq
     obtain⟨q',hq',rfl⟩:=VN.1 hq
     exact jl q' hq'
   · intro x hx
     exact CE ra.2 rb.2 (v1.pt t (by simp [q]) x hx)
 · have lv:=v1.leaves
   refine List.Perm.trans ?_ lv
   rw[VJ,VJ,VJ,←VH]
   have:(yK (ta.2++tb.2)).map (·.1)=ta.2.map (·.1)++tb.2.map (·.1):=by
    unfold yK;rw[List.map_map,List.map_append];rfl
   rw[this]
 · intro t ht
   rcases vR.1 ht with q|q
   · subst q
     intro D hD
     have hne:=v1.ne ta (by simp)
     obtain⟨x,hx⟩:=List.exists_mem_of_ne_nil _ hne
     have h1:=hD (x.1,x.2+1) (VN.2 ⟨x,List.mem_append_left _ hx,rfl⟩)
     obtain⟨D,rfl⟩:∃E,D=E+1:=⟨D-1,by simp at h1;omega⟩
     rw[Kn,Qn]
     rw[v1.Ek ta (by simp) D fun y hy=>by have:=hD (y.1,y.2+1) (VN.2 ⟨y,List.mem_append_left _ hy,rfl⟩);simp at this;omega]
     rw[v1.Ek tb (by simp) D fun y hy=>by have:=hD (y.1,y.2+1) (VN.2 ⟨y,List.mem_append_right _ hy,rfl⟩);simp at this;omega]
     rw[Nat.pow_succ];omega
   · exact v1.Ek t (by simp [q])
 · intro t ht
   rcases vR.1 ht with q|q
   · subst q
     have hne:=v1.ne ta (by simp)
     intro e
     have:yK (ta.2++tb.2)=[]:=e
     unfold yK at this
     rw[List.map_eq_nil_iff,List.append_eq_nil_iff]at this
     exact hne this.1
   · exact v1.ne t (by simp [q])
 · intro t ht
   rcases W2 t ht with ⟨_,_,e⟩|⟨q,e⟩
   · rw[e];omega
   · rw[e];exact v1.Je t (by simp [q])
 · exact KP hla hlb v.up
 · rw[VK,V5,mWn,V7 getT2];omega
 · intro hb t ht u hu
   have b1:=v1.MR hb
   have ba:=b1 tb (by simp) ta (by simp)
   rw[ea,eb]at ba
   rcases W2 t ht with ⟨_,_,e⟩|⟨q,e⟩
   · rcases W2 u hu with ⟨_,_,e'⟩|⟨q',e'⟩
     · rw[e,e'];omega
     · rw[e,e'];have:=wbt u q';omega
   · rcases W2 u hu with ⟨_,_,e'⟩|⟨q',e'⟩
     · rw[e,e'];have:=b1 t (by simp [q]) ta (by simp);rw[ea]at this;omega
     · rw[e,e'];exact b1 t (by simp [q]) u (by simp [q'])
 · intro hb t ht x hx
   have b1:=v1.MR hb
   have ba:=b1 tb (by simp) ta (by simp)
   have bb:=b1 ta (by simp) tb (by simp)
   rw[ea,eb]at ba bb
   rcases W2 t ht with ⟨_,e2,e⟩|⟨q,e⟩
   · rw[e]
     rw[e2]at hx
     obtain⟨y,hy,rfl⟩:=VN.1 hx
     have p2:(0:Int)<2^y.2:=Int.pow_pos (by omega)
     show(3:Int)^(y.2+1)≤s.sum* 2^(y.2+1)
     rw[Int.pow_succ,Int.pow_succ]
     have key:∀w:Int,(3:Int)^y.2≤w* 2^y.2→3* w≤2* s.sum→(3:Int)^y.2* 3≤s.sum* (2^y.2* 2):=fun w h1 h2=>by
      have a1:(3:Int)^y.2* 3≤(w* 2^y.2)* 3:=Int.mul_le_mul_of_nonneg_right h1 (by omega)
      have a2:(3* w)* 2^y.2≤(2* s.sum)* 2^y.2:=Int.mul_le_mul_of_nonneg_right h2 (by omega)
      have a3:(w* 2^y.2)* 3=(3* w)* 2^y.2:=by rw[Int.mul_comm 3 w,Int.mul_assoc,Int.mul_assoc,Int.mul_comm _ 3]
      have a4:s.sum* (2^y.2* 2)=(2* s.sum)* 2^y.2:=by rw[Int.mul_comm 2 s.sum,Int.mul_assoc,Int.mul_comm 2 (2^y.2)]
      omega
     rcases VY.1 hy with h|h
     · have:=v1.J5 hb ta (by simp) y h
       rw[ea]at this
       exact key _ this (by omega)
     · have:=v1.J5 hb tb (by simp) y h
       rw[eb]at this
       exact key _ this (by omega)
   · rw[e];exact v1.J5 hb t (by simp [q]) x hx
theorem z4.step {bal:Bool} {n:Nat} {tot:Int} {s:FS} {T:List Tr} (v:z4 bal n tot s T) (h2:2≤T.length) (ht:tot<1000000000000000):s.ok∧∃T',T'.length+1=T.length∧z4 bal n tot s.ET T':=by
 obtain⟨ta,tb,T2,p,ea,eb,l1,l2,wab,wbt⟩:=v.two h2
 have lT:=p.length_eq
 obtain⟨a,b⟩:=v.Mw p ea eb l1 l2 wab wbt ht
 exact⟨a,_,by rw[lT];simp,b⟩
def T0 (n:Nat):List Tr:=(List.range n).map fun i=>(i,[(i,0)])
theorem EH:∀(ws:List Int),((List.range ws.length).map fun i=>ws.getD i 0).sum=ws.sum:=by
 intro ws
 have:(List.range ws.length).map (fun i=>ws.getD i 0)=ws:=by
  apply List.ext_getElem?
  intro i
  rw[vJ]
  by_cases h:i<ws.length
  · rw[V6 h,Vz h];simp [Vx,h]
  · rw[VS (by simp;omega),VS (by omega)];rfl
 rw[this]
theorem Bz {α:Type} {n i:Nat} {x d:α} (h:i<n):(List.replicate n x).getD i d=x:=by
 rw[Vx,V4,if_pos h];rfl
theorem z4.init (ws : List Int) (bal : Bool) (pos : ∀ y ∈ ws, 1 ≤ y) (hb : bal = true → ∀ y ∈ ws, y = 1) : z4 bal ws.length ws.sum (z5 ws) (T0 ws.length) := by
 have mem:∀t∈T0 ws.length,∃i,i<ws.length∧t=(i,[(i,0)]):=fun t ht=>by
  obtain⟨i,hi,rfl⟩:=VN.1 ht
  exact⟨i,List.mem_range.1 hi,rfl⟩
 have gw:∀i,i<ws.length→ws.getD i 0∈ws:=fun i hi=>by
  rw[Vx,Vz hi];exact VP hi
 constructor
 · simp [z5]
 · simp [z5]
 · intro t ht
   obtain⟨i,hi,rfl⟩:=mem t ht
   exact⟨Bz hi,by show(List.replicate ws.length (-1:Int))[i]?=_;rw[V4,if_pos hi]⟩
 · intro i hi
   have:i<ws.length:=by
    apply VX
    intro c
    have e:(z5 ws).F.getD i false=false:=by
     show(List.replicate ws.length true).getD i false=false
     rw[Vx,VS (by simp;omega)];rfl
    rw[e]at hi;cases hi
   exact⟨(i,[(i,0)]),VN.2 ⟨i,List.mem_range.2 this,rfl⟩,rfl⟩
 · unfold T0
   rw[List.map_map]
   have:((fun t:Tr=>t.1)∘fun i=>((i,[(i,0)]):Tr))=id:=rfl
   rw[this,List.map_id];exact List.nodup_range
 · intro t ht q hq
   obtain⟨i,hi,rfl⟩:=mem t ht
   simp at hq
   subst hq
   exact rfl
 · have:(T0 ws.length).flatMap (fun t=>t.2.map (·.1))=List.range ws.length:=by
    unfold T0
    rw[List.flatMap_map]
    have:∀l:List Nat,(l.flatMap fun i=>([(i,0)]:List (Nat×Nat)).map (·.1))=l:=by
     intro l
     induction l with
     |nil=>rfl
     |cons x l ih=>rw[VJ,ih];rfl
    exact this _
   rw[this]
 · intro t ht D _
   obtain⟨i,hi,rfl⟩:=mem t ht
   simp [kr]
 · intro t ht
   obtain⟨i,hi,rfl⟩:=mem t ht
   simp
 · intro t ht
   obtain⟨i,hi,rfl⟩:=mem t ht
   exact pos _ (gw i hi)
 · intro j hj
   have:j<ws.length:=by simpa [z5]using hj
   exact .inl (Bz this)
 · unfold T0
   rw[List.map_map]
   exact EH ws
 · intro h t ht u hu
   obtain⟨i,hi,rfl⟩:=mem t ht
   obtain⟨j,hj,rfl⟩:=mem u hu
   have a:=hb h _ (gw i hi)
   have b:=hb h _ (gw j hj)
   show ws.getD i 0≤2* ws.getD j 0
   omega
 · intro h t ht q hq
   obtain⟨i,hi,rfl⟩:=mem t ht
   simp at hq
   subst hq
   have a:=hb h _ (gw i hi)
   show(3:Int)^0≤ws.getD i 0* 2^0
   rw[a];simp
theorem z4.run {bal:Bool} {n:Nat} {tot:Int} (ht:tot<1000000000000000):∀(m:Nat) (s:FS) (T:List Tr),z4 bal n tot s T→T.length=m+1→(∀k,k<m→(FS.yH k s).ok)∧∃t,z4 bal n tot (FS.yH m s) [t]
 | 0, s, T, v, h => by
   refine⟨fun k hk=>by omega, ?_⟩
   match T,h with
   |[t],_=>exact⟨t,v⟩
 | m + 1, s, T, v, h => by
   obtain⟨ok,T',hl,v'⟩:=v.step (by omega) ht
   obtain⟨h1,t,h2⟩:=z4.run ht m s.ET T' v' (by omega)
   refine⟨fun k hk=> ?_,t,h2⟩
   cases k with
   |zero=>exact ok
   |succ k=>exact h1 k (by omega)
theorem Ql (ws:List Int) (bal:Bool) (h1:1≤ws.length) (pos:∀y∈ws,1≤y) (hs:ws.sum<1000000000000000) (hb:bal=true→∀y∈ws,y=1):
 (∀k,k<ws.length-1→(FS.yH k (z5 ws)).ok)∧EX (FS.yH (ws.length-1) (z5 ws)).U∧(FS.yH (ws.length-1) (z5 ws)).U.length=(FS.yH (ws.length-1) (z5 ws)).W.length∧
 (∀D:Nat,(∀d∈wB ws,d≤(D:Int))→((wB ws).map fun d=>2^(D-d.toNat)).sum=2^D)∧
 (bal=true→∀d∈wB ws,(3:Int)^d.toNat≤ws.sum* 2^d.toNat)∧(2≤ws.length→∀d∈wB ws,1≤d):=by
 obtain⟨ok,t,v⟩:=z4.run hs (ws.length-1) (z5 ws) (T0 ws.length) (z4.init ws bal pos hb) (by simp [T0];omega)
 obtain⟨S,hS⟩:∃S,S=FS.yH (ws.length-1) (z5 ws):=⟨_,rfl⟩
 have eD:wB ws=BL S.U ws.length:=by rw[hS];rfl
 rw[←hS]at v ⊢
 have up:=v.up
 have rt:=(v.root t (by simp)).2
 have rtD:S.U.getD t.1 (-1)= -1:=by rw[Vx,rt];rfl
 have rl:=(vt.1 rt).1
 have lv:=v.leaves
 simp only[VJ,List.flatMap_nil,VM]at lv
 have dep:∀q∈t.2,zT S.U S.U.length (S.U.getD q.1 (-1))=q.2:=fun q hq=>by
  have:=v.pt t (by simp) q hq
  have l:=GB up this
  exact GC up this rtD _ (by omega)
 have pm:(wB ws).Perm (t.2.map fun q=>((q.2:Nat):Int)):=by
  rw[eD]
  unfold BL
  have:=lv.symm.map (fun i=>((zT S.U S.U.length (S.U.getD i (-1)):Nat):Int))
  refine this.trans ?_
  rw[List.map_map]
  have e:t.2.map ((fun i=>((zT S.U S.U.length (S.U.getD i (-1)):Nat):Int))∘fun x=>x.1)=t.2.map fun q=>((q.2:Nat):Int):=V7 fun q hq=>by
   show((zT S.U S.U.length (S.U.getD q.1 (-1)):Nat):Int)=_
   rw[dep q hq]
  rw[e]
 have mem:∀d∈wB ws,∃q∈t.2,d=((q.2:Nat):Int):=fun d hd=>by
  obtain⟨q,hq,rfl⟩:=VN.1 (pm.mem_iff.1 hd)
  exact⟨q,hq,rfl⟩
 refine⟨ok,up,v.lu,fun D hD=> ?_,fun hbt d hd=> ?_,fun h2 d hd=> ?_⟩
 · have:=FI (pm.map fun d=>2^(D-d.toNat))
   rw[this,List.map_map]
   have kk:=v.Ek t (by simp) D fun q hq=>by
    have:=hD ((q.2:Nat):Int) (pm.mem_iff.2 (VN.2 ⟨q,hq,rfl⟩))
    omega
   rw[←kk]
   unfold kr
   congr 1
 · obtain⟨q,hq,rfl⟩:=mem d hd
   have:=v.J5 hbt t (by simp) q hq
   have sm:=v.sum
   rw[VK,Wk,V5,List.sum_nil,Int.add_zero]at sm
   rw[←sm]
   exact this
 · obtain⟨q,hq,rfl⟩:=mem d hd
   have pq:=v.pt t (by simp) q hq
   apply VX
   intro c
   have z:q.2=0:=by omega
   rw[z]at pq
   have e:q.1=t.1:=pq
   have ql:q.1<ws.length:=List.mem_range.1 (lv.mem_iff.1 (VN.2 ⟨q,hq,rfl⟩))
   have rr:S.W.length=ws.length+(ws.length-1):=by rw[hS,FS.Ba];rfl
   have kk:∀D,(∀p∈t.2,p.2≤D)→kr D t.2=2^D:=v.Ek t (by simp)
   obtain⟨D,hDD⟩:∃D,∀p∈t.2,p.2≤D:=⟨t.1,fun p hp=>by have:=GB up (v.pt t (by simp) p hp);omega⟩
   have k:=kk D hDD
   have l2:t.2.length=ws.length:=by
    have:=lv.length_eq
    simpa using this
   have pe:=List.perm_cons_erase hq
   have:kr D t.2=kr D (q::t.2.erase q):=FI (pe.map _)
   rw[this]at k
   have:kr D (q::t.2.erase q)=2^(D-q.2)+kr D (t.2.erase q):=by simp [kr]
   rw[this,z,Nat.sub_zero]at k
   have le:=pe.length_eq
   rw[Vy]at le
   cases hE:t.2.erase q with
   |nil=>rw[hE]at le;simp at le;omega
   | cons y r =>
     rw[hE]at k
     have:kr D (y::r)=2^(D-y.2)+kr D r:=by simp [kr]
     have:=Nat.pow_pos (n:=D-y.2) (show 0<2 by omega)
     omega
def xy (l:List Int) (i:Nat):List Int:=l.set i (l.getD i 0+1)
theorem yf (l:List Int) (i:Nat):(xy l i).length=l.length:=by simp [xy]
theorem zG {l:List Int} {i:Nat} {n:Int} (h:∀y∈l,0≤y∧y≤n) (hn:0≤n):∀y∈xy l i,0≤y∧y≤n+1:=by
 intro y hy
 rcases V0 hy with q|q
 · have:=h y q;omega
 · subst q
   rw[Vx]
   cases e:l[i]? with
   |none=>simp;omega
   |some z=>have:=h z (vE e);simp;omega
def yN (t:Tok):Prop:=(t.len=0∧0≤t.lit∧t.lit≤255)∨(3≤t.len∧t.len≤258∧1≤t.wL∧t.wL≤32768)
def zr:List Tok→List Int→List Int
 |[],A=>A
 |t::r,A=>zr r (if t.len=0 then xy A t.lit.toNat else xy A (xB t.len.toNat))
def zE:List Tok→List Int→List Int
 |[],B=>B
 |t::r,B=>zE r (if t.len=0 then B else xy B (xG t.wL.toNat))
structure JZ (h h':H) (a b:Nat):Prop where
 floor:h'.floor=h.floor
 next:h.next≤h'.next
 xc:∀i,i<h.next→i≠a→i≠b→h'.get i=h.get i
theorem JZ.refl (h:H) (a b:Nat):JZ h h a b:=⟨rfl,vB _,fun _ _ _ _=>rfl⟩
theorem JZ.trans {x y z:H} {a b:Nat} (p:JZ x y a b) (q:JZ y z a b):JZ x z a b:=⟨q.floor.trans p.floor,vT p.next q.next,fun i h1 h2 h3=>(q.xc i (Nat.lt_of_lt_of_le h1 p.next) h2 h3).trans (p.xc i h1 h2 h3)⟩
theorem y6 {l:List Int} {i:Nat} (h:i<l.length):(ints l)[i]?=some (.int .i64 (l.getD i 0)):=tG (by rw[Vx,Vz h];rfl)
theorem Hg {v:AV} {ts:List Tok} (hn:ts.length<1000000) (h0:H) (rd:xR 3 h0 v ts.length (wG ts)) (ia ib i:Nat) (t:Tok) (ht:ts[i]?=some t) (o:yN t) (hab:ia≠ib) (hia:h0.next≤ia) (hib:h0.next≤ib) {A B:List Int} {h:H} (hx:Ext h0 h) (ga:h.get ia=some (ints A)) (gb:h.get ib=some (ints B)) (hA:A.length=286) (hB:B.length=30) (rA:∀y∈A,0≤y∧y≤(i:Int)+1) (rB:∀y∈B,0≤y∧y≤(i:Int)+1) (fa:h.floor≤ia) (fb:h.floor≤ib) (hfl:h.floor≤h.next):
 ∃h',aL (aR AP.A) bp AP.f13L4 (ay [(0,v),(4,.aF ia 0 286 1),(5,.aF ib 0 30 1),(6,.int .i64 i)] [0,4,5,6]) h=some (.normal,[(0,v),(4,.aF ia 0 286 1),(5,.aF ib 0 30 1),(6,.int .i64 (i+1:Nat))],h')∧h'.get ia=some (ints (zr [t] A))∧h'.get ib=some (ints (zE [t] B))∧JZ h h' ia ib:=by
 have ln:=rd.len
 obtain⟨ad,a1,a2,a3⟩:=rd.DA
 have hi:i<ts.length:=(vt.1 ht).1
 have hI:(0:Int)≤(i:Int)∧(i:Int)<ts.length:=⟨by omega,by omega⟩
 have b1:=a1 _ hI
 have b2:=a2 i 0 1 hI
 have b20:=a2 i 0 0 hI
 have b22:=a2 i 0 2 hI
 obtain⟨b3,b4,b5,_⟩:=a3 h hx _ _ ht
 have n1:((i+1:Nat):Int)=(i:Int)+1:=by omega
 have la:(ints A).length=286:=by rw[qg,hA]
 have lb:(ints B).length=30:=by rw[qg,hB]
 have hian:=h.lt _ _ ga
 have hibn:=h.lt _ _ gb
 rcases o with ⟨c0,h2,h3⟩|⟨h1,h2,h3,h4⟩
 · obtain⟨y,hy⟩:∃y:Nat,t.lit=y:=VF h2
   have yt:t.lit.toNat=y:=by omega
   have gx:=y6 (l:=A) (i:=y) (by omega)
   have xr:0≤A.getD y 0∧A.getD y 0≤(i:Int)+1:=by
    rw[Vx,Vz (by omega)]
    exact rA _ (VP _)
   have es:=xk A y (A.getD y 0+1)
   change _=ints (xy A y)at es
   rw[hy]at b3
   rw[c0]at b4
   have yb:y≤255:=by omega
   have eA:zr [t] A=xy A y:=by rw[zr,if_pos c0,yt];rfl
   have eB:zE [t] B=B:=by rw[zE,if_pos c0];rfl
   rw[eA,eB]
   refine⟨h.set ia (ints (xy A y)), ?_,by rw[wu rfl,ga];rfl,by rw[vX hab.symm,gb],⟨by simp,by simp,fun j _ h2 _=>vX h2⟩⟩
   rw[n1]
   clear rd a1 a2 a3 hx rA rB ht b5 h2 h3 eA eB
   generalize A.getD y 0=z at *
   generalize ints (xy A y)=A2 at *
   generalize ints A=A0 at *
   generalize ints B=B0 at *
   simp (disch:=omega)only[go_sem,wc,AP.f13L4,ln,b1,b2,b20,b3,b4,ga,la,gx,es]
 · obtain⟨L,hL⟩:∃y:Nat,t.len=y:=VF (by omega)
   obtain⟨K,hK⟩:∃y:Nat,t.wL=y:=VF (by omega)
   have Lt:t.len.toNat=L:=by omega
   have Kt:t.wL.toNat=K:=by omega
   have kl:∀g:H,aR AP.A 28 [.int .i64 L] g=_:=fun g=>HG g L (by omega) (by omega)
   have kd:∀g:H,aR AP.A 29 [.int .i64 K] g=_:=fun g=>Lf g K (by omega) (by omega)
   have sl:=yV (k:=L) (by omega) (by omega)
   have sd:=yU (k:=K) (by omega) (by omega)
   have slt:xB L<286:=by omega
   have sdt:xG K<30:=by omega
   obtain⟨h1',eh1⟩:∃g,g=(h.alloc [.int .i64 0,.int .i64 0,.int .i64 0]).set h.next [.int .i64 (xB L:Nat),.int .i64 (yP L:Nat),.int .i64 (y9 L:Nat)]:=⟨_,rfl⟩
   have kp1:∀j,j<h.next→h1'.get j=h.get j:=fun j hj=>by rw[eh1,vX (by omega),v8 (by omega)]
   have x1:Ext h0 h1':=fun j c hj=>by
    have hj2:=h.lt _ _ (hx j c hj)
    rw[kp1 j hj2,hx j c hj]
   have g1:h1'.get h.next=some [.int .i64 (xB L:Nat),.int .i64 (yP L:Nat),.int .i64 (y9 L:Nat)]:=by rw[eh1,wu rfl,wh rfl];rfl
   have nx1:h1'.next=h.next+1:=by rw[eh1];simp
   have fx1:h1'.floor=h.floor:=by rw[eh1];simp
   obtain⟨_,_,b5',_⟩:=a3 h1' x1 _ _ ht
   obtain⟨h2',eh2⟩:∃g,g=(h1'.alloc [.int .i64 0,.int .i64 0,.int .i64 0]).set h1'.next [.int .i64 (xG K:Nat),.int .i64 (yT K:Nat),.int .i64 (zj K:Nat)]:=⟨_,rfl⟩
   have kp2:∀j,j<h1'.next→h2'.get j=h1'.get j:=fun j hj=>by rw[eh2,vX (by omega),v8 (by omega)]
   have g2:h2'.get h1'.next=some [.int .i64 (xG K:Nat),.int .i64 (yT K:Nat),.int .i64 (zj K:Nat)]:=by rw[eh2,wu rfl,wh rfl];rfl
   have g21:h2'.get h.next=some [.int .i64 (xB L:Nat),.int .i64 (yP L:Nat),.int .i64 (y9 L:Nat)]:=by rw[kp2 _ (by omega),g1]
   have ga2:h2'.get ia=some (ints A):=by rw[kp2 ia (by omega),kp1 ia hian,ga]
   have gb2:h2'.get ib=some (ints B):=by rw[kp2 ib (by omega),kp1 ib hibn,gb]
   have fx2:h2'.floor=h.floor:=by rw[eh2];simp [fx1]
   have nx2:h2'.next=h.next+2:=by rw[eh2];simp [nx1]
   have gx:=y6 (l:=A) (i:=xB L) (by omega)
   have gy:=y6 (l:=B) (i:=xG K) (by omega)
   have xr:0≤A.getD (xB L) 0∧A.getD (xB L) 0≤(i:Int)+1:=by
    rw[Vx,Vz (by omega)]
    exact rA _ (VP _)
   have yr:0≤B.getD (xG K) 0∧B.getD (xG K) 0≤(i:Int)+1:=by
    rw[Vx,Vz (by omega)]
    exact rB _ (VP _)
   have es:=xk A (xB L) (A.getD (xB L) 0+1)
   change _=ints (xy A (xB L))at es
   have et:=xk B (xG K) (B.getD (xG K) 0+1)
   change _=ints (xy B (xG K))at et
   rw[hL]at b4
   rw[hK]at b5'
   have cL:¬(L:Int)=0:=by omega
   obtain⟨h3',eh3⟩:∃g,g=h2'.set ia (ints (xy A (xB L))):=⟨_,rfl⟩
   have gb3:h3'.get ib=some (ints B):=by rw[eh3,vX hab.symm,gb2]
   have g31:h3'.get h1'.next=some [.int .i64 (xG K:Nat),.int .i64 (yT K:Nat),.int .i64 (zj K:Nat)]:=by rw[eh3,vX (by omega),g2]
   have eA:zr [t] A=xy A (xB L):=by rw[zr,if_neg (by omega),Lt];rfl
   have eB:zE [t] B=xy B (xG K):=by rw[zE,if_neg (by omega),Kt];rfl
   have fx3:h3'.floor=h.floor:=by rw[eh3];simp [fx2]
   rw[eA,eB]
   refine⟨h3'.set ib (ints (xy B (xG K))), ?_,by rw[vX hab,eh3,wu rfl,ga2];rfl,by rw[wu rfl,gb3];rfl,⟨by simp [fx3],by rw[eh3];simp [nx2],fun j h1 h2 h3=>by rw[vX h3,eh3,vX h2,kp2 j (by omega),kp1 j h1]⟩⟩
   rw[n1]
   clear rd a1 a2 a3 hx x1 rA rB ht b5 h2 h3 eA eB b3 h1 h4 sl sd kp1 kp2
   generalize xB L=S at *
   generalize yP L=B1 at *
   generalize y9 L=V at *
   generalize xG K=S' at *
   generalize yT K=B' at *
   generalize zj K=V' at *
   generalize A.getD S 0=z at *
   generalize B.getD S' 0=z' at *
   generalize ints (xy A S)=A2 at *
   generalize ints (xy B S')=B2 at *
   generalize ints A=A0 at *
   generalize ints B=B0 at *
   simp (disch:=omega)only[go_sem,wc,AP.f13L4,ln,b1,b2,b22,b4,b5',kl,kd,cL,←eh1,←eh2,g1,g2,g21,ga2,gb2,la,lb,gx,gy,es,et,←eh3,gb3,g31]
theorem AR:∀(ts:List Tok) (A:List Int),(zr ts A).length=A.length
 |[],A=>rfl
 |t::r,A=>by rw[zr,AR r];split<;>rw[yf]
theorem AU:∀(ts:List Tok) (A:List Int),(zE ts A).length=A.length
 |[],A=>rfl
 | t :: r, A => by
   rw[zE,AU r]
   split
   · rfl
   · rw[yf]
theorem AS:∀(ts:List Tok) (A:List Int) (n:Int),0≤n→(∀y∈A,0≤y∧y≤n)→∀y∈zr ts A,0≤y∧y≤n+ts.length
 |[],A,n,hn,h=>by simpa [zr]using h
 | t :: r, A, n, hn, h => by
   intro y hy
   rw[zr]at hy
   have:=AS r _ (n+1) (by omega) (by split<;>exact zG h hn) y hy
   simp only[Vy];omega
theorem AW:∀(ts:List Tok) (A:List Int) (n:Int),0≤n→(∀y∈A,0≤y∧y≤n)→∀y∈zE ts A,0≤y∧y≤n+ts.length
 |[],A,n,hn,h=>by simpa [zE]using h
 | t :: r, A, n, hn, h => by
   intro y hy
   rw[zE]at hy
   have:=AW r _ (n+1) (by omega) (by
    split
    · intro z hz;have:=h z hz;omega
    · exact zG h hn) y hy
   simp only[Vy];omega
theorem Dj {v:AV} {ts:List Tok} (hn:ts.length<1000000) (h0:H) (rd:xR 3 h0 v ts.length (wG ts)) (ia ib:Nat) (ok:∀t∈ts,yN t) (hab:ia≠ib) (hia:h0.next≤ia) (hib:h0.next≤ib):∀(q p:List Tok) (A B:List Int) (h:H),ts=p++q→Ext h0 h→h0.next≤h.next→h.get ia=some (ints A)→h.get ib=some (ints B)→A.length=286→B.length=30→(∀y∈A,0≤y∧y≤(p.length:Int)+1)→(∀y∈B,0≤y∧y≤(p.length:Int)+1)→h.floor≤ia→h.floor≤ib→h.floor≤h.next→
 ∃h',Lp AP.A [0,4,5,6] AP.f13L4 [(0,v),(4,.aF ia 0 286 1),(5,.aF ib 0 30 1),(6,.int .i64 p.length)] h=some (.exit 0,[(0,v),(4,.aF ia 0 286 1),(5,.aF ib 0 30 1),(6,.int .i64 ts.length),(43,.bool false)],h')∧h'.get ia=some (ints (zr q A))∧h'.get ib=some (ints (zE q B))∧JZ h h' ia ib
 | [], p, A, B, h, hp, hx, hnx, ga, gb, hA, hB, rA, rB, fa, fb, hfl => by
   rw[VM]at hp;subst hp
   have ln:=rd.len
   refine⟨h,tW ?_,ga,gb,JZ.refl h ia ib⟩
   simp (disch:=omega)only[go_sem,wc,AP.f13L4,ln]
 | t :: q, p, A, B, h, hp, hx, hnx, ga, gb, hA, hB, rA, rB, fa, fb, hfl => by
   have ht:ts[p.length]?=some t:=by rw[hp];simp
   have o:=ok t (vE ht)
   obtain⟨h1,s1,ga1,gb1,f1⟩:=Hg hn h0 rd ia ib p.length t ht o hab hia hib hx ga gb hA hB rA rB fa fb hfl
   have n1:(((p++[t]).length:Nat):Int)=((p.length+1:Nat):Int):=by simp
   have hx1:Ext h0 h1:=fun j c hj=>by
    have:=h0.lt _ _ hj
    rw[f1.xc j (by omega) (by omega) (by omega),hx j c hj]
   obtain⟨h',k,g1,g2,f2⟩:=Dj hn h0 rd ia ib ok hab hia hib q (p++[t]) (zr [t] A) (zE [t] B) h1 (by rw[hp];simp) hx1 (vT hnx f1.next) ga1 gb1 (by rw[AR,hA]) (by rw[AU,hB]) (fun y hy=>by have:=AS [t] A _ (by omega) rA y hy;simp at this ⊢;omega) (fun y hy=>by have:=AW [t] B _ (by omega) rB y hy;simp at this ⊢;omega) (by rw[f1.floor];exact fa) (by rw[f1.floor];exact fb) (by rw[f1.floor];exact vT hfl f1.next)
   rw[n1]at k
   exact⟨h',tX s1 k,g1,g2,f1.trans f2⟩
def xN:List Int→List Int→List Int
 |[],C=>C
 |d::r,C=>xN r (xy C d.toNat)
theorem AX:∀(ds C:List Int),(xN ds C).length=C.length
 |[],C=>rfl
 |d::r,C=>by rw[xN,AX r,yf]
theorem AY:∀(ds A:List Int) (n:Int),0≤n→(∀y∈A,0≤y∧y≤n)→∀y∈xN ds A,0≤y∧y≤n+ds.length
 |[],A,n,hn,h=>by simpa [xN]using h
 | t :: r, A, n, hn, h => by
   intro y hy
   rw[xN]at hy
   have:=AY r _ (n+1) (by omega) (zG h hn) y hy
   simp only[Vy];omega
theorem Dg {lv dv mv av:AV} {D:List Int} (hD:D.length<1000) (hr:∀d∈D,0≤d∧d<19) (ic:Nat) (hb:H) (rd:Rd hb av (ints D)) (hno:hb.get ic=none):∀(q p C:List Int) (h:H),D=p++q→Ext hb h→h.get ic=some (ints C)→C.length=19→(∀y∈C,0≤y∧y≤(p.length:Int))→h.floor≤ic→
 ∃h',Lp AP.A [0,11,13,15,16,17] AP.f13L3 [(0,lv),(11,dv),(13,mv),(15,av),(16,.aF ic 0 19 1),(17,.int .i64 p.length)] h=some (.exit 2,[(0,lv),(11,dv),(13,mv),(15,av),(16,.aF ic 0 19 1),(17,.int .i64 D.length),(122,.bool false)],h')∧h'.get ic=some (ints (xN q C))∧h'.floor=h.floor∧h'.next=h.next∧(∀i,i≠ic→h'.get i=h.get i)
 | [], p, C, h, hp, hx, gc, hC, rC, fc => by
   rw[VM]at hp;subst hp
   have ln:=rd.len
   rw[qg]at ln
   simp only[I]at ln
   refine⟨h,tW ?_,gc,rfl,rfl,fun _ _=>rfl⟩
   simp (disch:=omega)only[go_sem,wc,AP.f13L3,ln]
 | d :: q, p, C, h, hp, hx, gc, hC, rC, fc => by
   have ln:=rd.len
   rw[qg]at ln
   simp only[I]at ln
   have hl:D.length=p.length+(q.length+1):=by rw[hp];simp
   obtain⟨ad,a1,a2⟩:=rd.xj
   have b1:=a1 p.length ⟨by omega,by omega⟩
   have hd:D[p.length]?=some d:=by rw[hp];simp
   have dr:=hr d (vE hd)
   obtain⟨y,rfl⟩:=VF dr.1
   have b2:=a2 h hx p.length _ hd
   have lc:(ints C).length=19:=by rw[qg,hC]
   have gx:=y6 (l:=C) (i:=y) (by omega)
   have xr:0≤C.getD y 0∧C.getD y 0≤(p.length:Int):=by
    rw[Vx,Vz (by omega)]
    exact rC _ (VP _)
   have es:=xk C y (C.getD y 0+1)
   change _=ints (xy C y)at es
   have ty:((y:Nat):Int).toNat=y:=by omega
   have g2:(h.set ic (ints (xy C y))).get ic=some (ints (xy C y)):=by rw[wu rfl,gc];rfl
   obtain⟨h',k,g,f,n,t⟩:=Dg (lv:=lv) (dv:=dv) (mv:=mv) hD hr ic hb rd hno q (p++[(y:Int)]) (xy C y) (h.set ic (ints (xy C y))) (by rw[hp];simp) (hx.CF hno _) g2 (by rw[yf,hC]) (fun z hz=>by have:=zG rC (by omega) z hz;simp;omega) (by simpa using fc)
   have n1:(((p++[(y:Int)]).length:Nat):Int)=(p.length:Int)+1:=by simp
   rw[xN,ty]
   refine⟨h',tX ?_ k,g,by rw[f];simp,by rw[n];simp,fun i hi=>by rw[t i hi,vX hi]⟩
   rw[n1]
   clear k g f n t g2 rd a1 a2 hr hp hd hx rC
   generalize C.getD y 0=z at *
   generalize ints (xy C y)=C2 at *
   generalize ints C=C0 at *
   simp (disch:=omega)only[go_sem,wc,AP.f13L3,ln,b1,b2,gc,lc,gx,es]
theorem H7 {a0 a1 a2 a3 lv ov:AV} {L:List Int} (hL:L.length=19) (ir:Nat) (hb:H) (rl:Rd hb lv (ints L)) (ro:Rd hb ov (ints we)) (hno:hb.get ir=none):∀(m i:Nat) (h:H),i+m=19→Ext hb h→h.get ir=some (ints ((we.take i).map (fun o=>L.getD o.toNat 0)++List.replicate m 0))→h.floor≤ir→
 ∃h',Lp AP.A [0,11,13,15,18,20,21,22] AP.f13L2 [(0,a0),(11,a1),(13,a2),(15,a3),(18,lv),(20,ov),(21,.aF ir 0 19 1),(22,.int .i64 i)] h=some (.exit 4,[(0,a0),(11,a1),(13,a2),(15,a3),(18,lv),(20,ov),(21,.aF ir 0 19 1),(22,.int .i64 19),(142,.bool false)],h')∧h'.get ir=some (ints (we.map (fun o=>L.getD o.toNat 0)))∧h'.floor=h.floor∧h'.next=h.next∧(∀i,i≠ir→h'.get i=h.get i)
 | 0, i, h, hi, hx, gr, fr => by
   obtain rfl:i=19:=by omega
   have e:we.take 19=we:=rfl
   rw[e,List.replicate_zero,VM]at gr
   refine⟨h,tW ?_,gr,rfl,rfl,fun _ _=>rfl⟩
   simp (disch:=omega)only[go_sem,wc,AP.f13L2]
 | m + 1, i, h, hi, hx, gr, fr => by
   have hi19:i<we.length:=by show i<19;omega
   obtain⟨ad,d1,d2⟩:=rl.xj
   obtain⟨ao,o1,o2⟩:=ro.xj
   have b1:=o1 i ⟨by omega,by omega⟩
   have ho:we[i]?=some (we[i]):=Vz hi19
   have orr:0≤we[i]∧we[i]<19:=Bw _ (VP hi19)
   have tk:we.take (i+1)=we.take i++[we[i]]:=by rw[List.take_add_one,ho];rfl
   obtain⟨y,hy⟩:=VF orr.1
   have ho2:we[i]?=some (y:Int):=by rw[ho,hy]
   have b2:=o2 h hx i _ ho2
   have c1:=d1 y ⟨by omega,by omega⟩
   have lgy:L[y]?=some (L.getD y 0):=by rw[Vx,Vz (by omega)];rfl
   have c2:=d2 h hx y _ lgy
   have ty:((y:Nat):Int).toNat=y:=by omega
   have lr:(ints ((we.take i).map (fun o=>L.getD o.toNat 0)++List.replicate (m+1) 0)).length=19:=by
    rw[qg,vV,Wc,VZ,VR];show min i 19+(m+1)=19;omega
   have il:((we.take i).map (fun o=>L.getD o.toNat 0)).length=i:=by rw[Wc,VZ];show min i 19=i;omega
   have es:(ints ((we.take i).map (fun o=>L.getD o.toNat 0)++List.replicate (m+1) 0)).set i (.int .i64 (L.getD y 0))=ints ((we.take (i+1)).map (fun o=>L.getD o.toNat 0)++List.replicate m 0):=by
    rw[xk,V9 _ _ (by omega),il,Wo,tk,List.map_append,VH,hy]
    rfl
   have g2:(h.set ir (ints ((we.take (i+1)).map (fun o=>L.getD o.toNat 0)++List.replicate m 0))).get ir=some (ints ((we.take (i+1)).map (fun o=>L.getD o.toNat 0)++List.replicate m 0)):=by rw[wu rfl,gr];rfl
   obtain⟨h',k,g,f,n,t⟩:=H7 (a0:=a0) (a1:=a1) (a2:=a2) (a3:=a3) hL ir hb rl ro hno m (i+1) _ (by omega) (hx.CF hno _) g2 (by simpa using fr)
   have n1:((i+1:Nat):Int)=(i:Int)+1:=by omega
   refine⟨h',tX ?_ k,g,by rw[f];simp,by rw[n];simp,fun i hi=>by rw[t i hi,vX hi]⟩
   rw[n1]
   clear k g f n t g2 rl ro d1 d2 o1 o2 hx ho ho2 hy orr tk lgy il
   generalize L.getD y 0=z at *
   generalize ints ((we.take (i+1)).map (fun o=>L.getD o.toNat 0)++List.replicate m 0)=R2 at *
   generalize ints ((we.take i).map (fun o=>L.getD o.toNat 0)++List.replicate (m+1) 0)=R0 at *
   simp (disch:=omega)only[go_sem,wc,AP.f13L2,b1,b2,c1,c2,gr,lr,es]
def zm (R:List Int):List Nat:=R.flatMap fun y=>wA y.toNat 3
theorem At:∀R:List Int,(zm R).length=3* R.length
 |[]=>rfl
 | y :: R => by
   have:=At R
   unfold zm at *
   rw[VJ,vV,this];simp [wA,wE];omega
theorem FO {a0 a1 a2 a3 a4 rv:AV} {R:List Int} (h0:H) (rr:Rd h0 rv (ints R)) (k:Nat) (hk:k≤R.length) (hR:R.length=19) (w:Nat) (hr:∀y∈R,0≤y∧y<8):∀(m i:Nat) (bs:List Nat) (h:H) (ov:AV),i+m=k→WX h0 h w bs ov→bs.length+3* m≤65000→
 ∃e' h' ov',Lp AP.A [0,11,13,15,18,21,23,24,25] AP.f13L1 [(0,a0),(11,a1),(13,a2),(15,a3),(18,a4),(21,rv),(23,.int .i64 k),(24,.aE w 0),(25,.int .i64 i)] h=some (.exit 6,e',h')∧look e' 0=a0∧look e' 11=a1∧look e' 13=a2∧look e' 15=a3∧look e' 18=a4∧look e' 24=.aE w 0∧WX h0 h' w (bs++zm ((R.drop i).take m)) ov'
 | 0, i, bs, h, ov, hi, x, hb => by
   obtain rfl:i=k:=by omega
   refine⟨[(0,a0),(11,a1),(13,a2),(15,a3),(18,a4),(21,rv),(23,.int .i64 i),(24,.aE w 0),(25,.int .i64 i),(177,.bool false)],h,ov,tW ?_,rfl,rfl,rfl,rfl,rfl,rfl,by simpa [zm]using x⟩
   simp (disch:=omega)only[go_sem,wc,AP.f13L1]
 | m + 1, i, bs, h, ov, hi, x, hb => by
   obtain⟨ad,d1,d2⟩:=rr.xj
   have b1:=d1 i ⟨by omega,by omega⟩
   have hg:R[i]?=some (R.getD i 0):=by rw[Vx,Vz (by omega)];rfl
   have yr:=hr _ (vE hg)
   obtain⟨y,hy⟩:=VF yr.1
   rw[hy]at hg yr
   have b2:=d2 h x.ext i _ hg
   have dr:R.drop i=(y:Int)::R.drop (i+1):=by
    rw[List.drop_eq_getElem_cons (by omega)]
    rw[Vz (by omega)]at hg
    rw[vm hg]
   obtain⟨h1,o1,k1,w1,f1⟩:=zR x.wr y 3 (by omega) (by omega) (by omega)
   have k1':aR AP.A 33 [.aE w 0,.int .i64 y,.int .i64 3] h=_:=k1
   have x1:=x.step w1 f1
   have hl1:(bs++wA y 3).length=bs.length+3:=by simp [wA,wE]
   obtain⟨e',h',ov',r1,r2,r3,r4,r5,r6,r7,x2⟩:=FO (a0:=a0) (a1:=a1) (a2:=a2) (a3:=a3) (a4:=a4) h0 rr k hk hR w hr m (i+1) _ h1 o1 (by omega) x1 (by rw[hl1];omega)
   have n1:((i+1:Nat):Int)=(i:Int)+1:=by omega
   refine⟨e',h',ov',tX ?_ r1,r2,r3,r4,r5,r6,r7, ?_⟩
   · rw[n1]
     clear r1 r2 r3 r4 r5 r6 r7 x2 x1 w1 f1 x rr d1 d2 hr dr hy hg
     simp (disch:=omega)only[go_sem,wc,AP.f13L1,b1,b2,k1']
   · rw[dr,vH]
     have:zm ((y:Int)::(R.drop (i+1)).take m)=wA y 3++zm ((R.drop (i+1)).take m):=by unfold zm;rw[VJ];rfl
     rw[this,←VH]
     exact x2
def yS (E:List (Int×Int)) (D:List Int):List Nat:=D.flatMap fun y=>wy E y.toNat
theorem Cd {E:List (Int×Int)}:∀{D:List Int},(∀y∈D,BH E y.toNat)→(yS E D).length≤15* D.length
 |[],_=>by simp [yS]
 | y :: D, h => by
   have:=Cd (E:=E) (D:=D) fun z hz=>h z (by simp [hz])
   obtain⟨n,v,_,q1,q2,q3,q4⟩:=(h y (by simp)).bits
   unfold yS at *
   rw[VJ,vV,q4,xm,Vy];omega
theorem Ez {a0 a1 a2 av ev:AV} {D:List Int} {E:List (Int×Int)} (h0:H) (ra:Rd h0 av (ints D)) (re:xR 2 h0 ev E.length (E.flatMap wX)) (hD:D.length<1000) (hE:E.length=19) (w:Nat) (hr:∀y∈D,0≤y∧y<19) (ok:∀y∈D,BH E y.toNat):∀(q p:List Int) (bs:List Nat) (h:H) (ov:AV),D=p++q→WX h0 h w bs ov→bs.length+15* q.length≤65000→
 ∃e' h' ov',Lp AP.A [0,11,13,15,24,26,28] AP.f13L0 [(0,a0),(11,a1),(13,a2),(15,av),(24,.aE w 0),(26,ev),(28,.int .i64 p.length)] h=some (.exit 8,e',h')∧look e' 0=a0∧look e' 11=a1∧look e' 13=a2∧look e' 24=.aE w 0∧WX h0 h' w (bs++yS E q) ov'
 | [], p, bs, h, ov, hp, x, hb => by
   rw[VM]at hp;subst hp
   have ln:=ra.len
   rw[qg]at ln
   simp only[I]at ln
   refine⟨[(0,a0),(11,a1),(13,a2),(15,av),(24,.aE w 0),(26,ev),(28,.int .i64 D.length),(194,.bool false)],h,ov,tW ?_,rfl,rfl,rfl,rfl,by simpa [yS]using x⟩
   simp (disch:=omega)only[go_sem,wc,AP.f13L0,ln]
 | d :: q, p, bs, h, ov, hp, x, hb => by
   have ln:=ra.len
   rw[qg]at ln
   simp only[I]at ln
   have hl:D.length=p.length+(q.length+1):=by rw[hp];simp
   obtain⟨ad,d1,d2⟩:=ra.xj
   obtain⟨ae,e1,e2⟩:=re.FE
   have b1:=d1 p.length ⟨by omega,by omega⟩
   have hd:D[p.length]?=some d:=by rw[hp];simp
   have dr:=hr d (vE hd)
   have oc:=ok d (vE hd)
   obtain⟨y,rfl⟩:=VF dr.1
   have b2:=d2 h x.ext p.length _ hd
   have ty:((y:Nat):Int).toNat=y:=by omega
   rw[ty]at oc
   obtain⟨n,c,q0,q1,q2,q3,q4⟩:=oc.bits
   have yl:=oc.lt
   have c1:=e1 y ⟨by omega,by omega⟩
   have c2:=e2 h x.ext _ _ q0
   simp only[Vy]at hb
   obtain⟨h1,o1,k1,w1,f1⟩:=CJ x.wr c n q1 q2 q3 (by omega)
   have x1:=x.step w1 f1
   have hl1:(bs++yC c n).length=bs.length+n:=by simp [xm]
   obtain⟨e',h',ov',r1,r2,r3,r4,r5,x2⟩:=Ez (a0:=a0) (a1:=a1) (a2:=a2) h0 ra re hD hE w hr ok q (p++[(y:Int)]) _ h1 o1 (by rw[hp];simp) x1 (by rw[hl1];omega)
   have n1:(((p++[(y:Int)]).length:Nat):Int)=(p.length:Int)+1:=by simp
   refine⟨e',h',ov',tX ?_ r1,r2,r3,r4,r5, ?_⟩
   · rw[n1]
     clear r1 r2 r3 r4 r5 x2 x1 w1 f1 x ra re d1 d2 e1 e2 hr hp hd ok oc q4 q0 q3
     simp (disch:=omega)only[go_sem,wc,AP.f13L0,ln,b1,b2,c1,c2,k1]
   · have:yS E ((y:Int)::q)=yC c n++yS E q:=by unfold yS;rw[VJ,ty,q4]
     rw[this,←VH]
     exact x2
theorem UP {v0:AV} {g:H}:aL (aR AP.A) bp (at_ 0 AP.f13.body) (params 0 [v0]) g=some (.normal,[(0,v0)],g):=by
 simp (disch:=omega)only[go_sem,wc,AP.f13,xL,xO]
theorem UQ {v0:AV} {g:H} (k:aR AP.A 27 [v0] g=some (.bool true,g)):aL (aR AP.A) bp (at_ 1 AP.f13.body) [(0,v0)] g=some (.normal,[(0,v0)],g):=by
 simp (disch:=omega)only[go_sem,wc,AP.f13,xL,xO,k]
theorem UU {v0 v4 v5 v11:AV} {g:H} (k:aR AP.A 30 [v4,.int .i64 15] g=some (.bL [v11,.int .i64 0],g)):aL (aR AP.A) bp (at_ 5 AP.f13.body) [(0,v0),(4,v4),(5,v5)] g=some (.normal,[(0,v0),(5,v5),(11,v11)],g):=by
 simp (disch:=omega)only[go_sem,wc,AP.f13,xL,xO,k]
theorem UW {v0 v5 v11 v13:AV} {g:H} (k:aR AP.A 30 [v5,.int .i64 15] g=some (.bL [v13,.int .i64 0],g)):aL (aR AP.A) bp (at_ 6 AP.f13.body) [(0,v0),(5,v5),(11,v11)] g=some (.normal,[(0,v0),(11,v11),(13,v13)],g):=by
 simp (disch:=omega)only[go_sem,wc,AP.f13,xL,xO,k]
theorem TE {v0 v11 v13 v15 v16 v18:AV} {g:H} (k:aR AP.A 30 [v16,.int .i64 7] g=some (.bL [v18,.int .i64 0],g)):aL (aR AP.A) bp (at_ 13 AP.f13.body) [(0,v0),(11,v11),(13,v13),(15,v15),(16,v16)] g=some (.normal,[(0,v0),(11,v11),(13,v13),(15,v15),(18,v18)],g):=by
 simp (disch:=omega)only[go_sem,wc,AP.f13,xL,xO,k]
theorem TF {v0 v11 v13 v15 v18 v20:AV} {g:H} (k:aR AP.A 32 [] g=some (v20,g)):aL (aR AP.A) bp (at_ 14 AP.f13.body) [(0,v0),(11,v11),(13,v13),(15,v15),(18,v18)] g=some (.normal,[(0,v0),(11,v11),(13,v13),(15,v15),(18,v18),(20,v20)],g):=by
 simp (disch:=omega)only[go_sem,wc,AP.f13,xL,xO,k]
theorem TI {v0 v11 v13 v15 v18 v21 v23:AV} {g:H} (k:aR AP.A 31 [v21,.int .i64 4] g=some (v23,g)):aL (aR AP.A) bp (at_ 17 AP.f13.body) [(0,v0),(11,v11),(13,v13),(15,v15),(18,v18),(21,v21)] g=some (.normal,[(0,v0),(11,v11),(13,v13),(15,v15),(18,v18),(21,v21),(23,v23)],g):=by
 simp (disch:=omega)only[go_sem,wc,AP.f13,xL,xO,k]
theorem TJ {v0 v11 v13 v15 v18 v21 v23:AV} {g:H}:aL (aR AP.A) bp (at_ 18 AP.f13.body) [(0,v0),(11,v11),(13,v13),(15,v15),(18,v18),(21,v21),(23,v23)] g=some (.normal,[(0,v0),(11,v11),(13,v13),(15,v15),(18,v18),(21,v21),(23,v23),(24,.aE g.next 0)],(g.alloc [.aP,.int .i64 0])):=by
 simp (disch:=omega)only[go_sem,wc,AP.f13,xL,xO]
theorem TK {v0 v11 v13 v15 v18 v21 v23 v24:AV} {g g2:H} (k:aR AP.A 33 [v24,.int .i64 5,.int .i64 3] g=some (.int .i64 0,g2)):aL (aR AP.A) bp (at_ 19 AP.f13.body) [(0,v0),(11,v11),(13,v13),(15,v15),(18,v18),(21,v21),(23,v23),(24,v24)] g=some (.normal,[(0,v0),(11,v11),(13,v13),(15,v15),(18,v18),(21,v21),(23,v23),(24,v24)],g2):=by
 simp (disch:=omega)only[go_sem,wc,AP.f13,xL,xO,k]
theorem TL {v0 v11 v13 v15 v18 v21 v23 v24:AV} {g g2:H} {n:Nat} (ln:jg false v11=some (.int .i64 n)) (hn:n<1000) (k:aR AP.A 33 [v24,.int .i64 ((n:Int)-257),.int .i64 5] g=some (.int .i64 0,g2)):aL (aR AP.A) bp (at_ 20 AP.f13.body) [(0,v0),(11,v11),(13,v13),(15,v15),(18,v18),(21,v21),(23,v23),(24,v24)] g=some (.normal,[(0,v0),(11,v11),(13,v13),(15,v15),(18,v18),(21,v21),(23,v23),(24,v24)],g2):=by
 simp (disch:=omega)only[go_sem,wc,AP.f13,xL,xO,ln,k]
theorem TM {v0 v11 v13 v15 v18 v21 v23 v24:AV} {g g2:H} {n:Nat} (ln:jg false v13=some (.int .i64 n)) (hn:n<1000) (k:aR AP.A 33 [v24,.int .i64 ((n:Int)-1),.int .i64 5] g=some (.int .i64 0,g2)):aL (aR AP.A) bp (at_ 21 AP.f13.body) [(0,v0),(11,v11),(13,v13),(15,v15),(18,v18),(21,v21),(23,v23),(24,v24)] g=some (.normal,[(0,v0),(11,v11),(13,v13),(15,v15),(18,v18),(21,v21),(23,v23),(24,v24)],g2):=by
 simp (disch:=omega)only[go_sem,wc,AP.f13,xL,xO,ln,k]
theorem TN {v0 v11 v13 v15 v18 v21 v24:AV} {g g2:H} {n:Nat} (hn:n<1000) (k:aR AP.A 33 [v24,.int .i64 ((n:Int)-4),.int .i64 4] g=some (.int .i64 0,g2)):aL (aR AP.A) bp (at_ 22 AP.f13.body) [(0,v0),(11,v11),(13,v13),(15,v15),(18,v18),(21,v21),(23,.int .i64 n),(24,v24)] g=some (.normal,[(0,v0),(11,v11),(13,v13),(15,v15),(18,v18),(21,v21),(23,.int .i64 n),(24,v24)],g2):=by
 simp (disch:=omega)only[go_sem,wc,AP.f13,xL,xO,k]
theorem TO {v0 v11 v13 v15 v18 v21 v23 v24:AV} {g g2:H} {e:Env} (L:Lp AP.A [0,11,13,15,18,21,23,24,25] AP.f13L1 [(0,v0),(11,v11),(13,v13),(15,v15),(18,v18),(21,v21),(23,v23),(24,v24),(25,.int .i64 0)] g=some (.exit 6,e,g2)) (q0:look e 0=v0) (q11:look e 11=v11) (q13:look e 13=v13) (q15:look e 15=v15) (q18:look e 18=v18) (q24:look e 24=v24):aL (aR AP.A) bp (at_ 23 AP.f13.body) [(0,v0),(11,v11),(13,v13),(15,v15),(18,v18),(21,v21),(23,v23),(24,v24)] g=some (.normal,[(0,v0),(11,v11),(13,v13),(15,v15),(18,v18),(24,v24)],g2):=by
 simp (disch:=omega)only[go_sem,wc,AP.f13,xL,xO,sX,L,q0,q11,q13,q15,q18,q24]
theorem TP {v0 v11 v13 v15 v18 v24 v26:AV} {g:H} (k:aR AP.A 34 [v18] g=some (.bL [v26,.int .i64 0],g)):aL (aR AP.A) bp (at_ 24 AP.f13.body) [(0,v0),(11,v11),(13,v13),(15,v15),(18,v18),(24,v24)] g=some (.normal,[(0,v0),(11,v11),(13,v13),(15,v15),(24,v24),(26,v26)],g):=by
 simp (disch:=omega)only[go_sem,wc,AP.f13,xL,xO,k]
theorem TQ {v0 v11 v13 v15 v24 v26:AV} {g g2:H} {e:Env} (L:Lp AP.A [0,11,13,15,24,26,28] AP.f13L0 [(0,v0),(11,v11),(13,v13),(15,v15),(24,v24),(26,v26),(28,.int .i64 0)] g=some (.exit 8,e,g2)) (q0:look e 0=v0) (q11:look e 11=v11) (q13:look e 13=v13) (q24:look e 24=v24):aL (aR AP.A) bp (at_ 25 AP.f13.body) [(0,v0),(11,v11),(13,v13),(15,v15),(24,v24),(26,v26)] g=some (.normal,[(0,v0),(11,v11),(13,v13),(24,v24)],g2):=by
 simp (disch:=omega)only[go_sem,wc,AP.f13,xL,xO,sX,L,q0,q11,q13,q24]
theorem TR {v0 v11 v13 v24 v29:AV} {g:H} (k:aR AP.A 34 [v11] g=some (.bL [v29,.int .i64 0],g)):aL (aR AP.A) bp (at_ 26 AP.f13.body) [(0,v0),(11,v11),(13,v13),(24,v24)] g=some (.normal,[(0,v0),(13,v13),(24,v24),(29,v29)],g):=by
 simp (disch:=omega)only[go_sem,wc,AP.f13,xL,xO,k]
theorem TS {v0 v13 v24 v29 v31:AV} {g:H} (k:aR AP.A 34 [v13] g=some (.bL [v31,.int .i64 0],g)):aL (aR AP.A) bp (at_ 27 AP.f13.body) [(0,v0),(13,v13),(24,v24),(29,v29)] g=some (.normal,[(0,v0),(24,v24),(29,v29),(31,v31)],g):=by
 simp (disch:=omega)only[go_sem,wc,AP.f13,xL,xO,k]
theorem TU {v0 v24 v29 v31:AV} {g g2:H} (k:aR AP.A 36 [v24,v0,v29,v31] g=some (.bL [],g2)):aL (aR AP.A) bp (at_ 28 AP.f13.body) [(0,v0),(24,v24),(29,v29),(31,v31)] g=some (.normal,[(24,v24)],g2):=by
 simp (disch:=omega)only[go_sem,wc,AP.f13,xL,xO,k]
theorem TW {v24:AV} {g:H} {t:ByteArray} (k:aR AP.A 37 [v24] g=some (.str t,g)):aL (aR AP.A) bp (JT 29 AP.f13.body) [(24,v24)] g=some (.ret,[(2,.str t),(3,.int .i64 0)],g):=by
 simp (disch:=omega)only[go_sem,wc,AP.f13,MD,MC,k]
theorem KY {h:H} {cs:List AV} {N k:Nat} (hN:cs.length=N) (h0:0<N) (hk:k≤N):sQ h 1 (yx 1 N cs) none (some (.int .i64 k)) none=some (.aV false cs 0 k 1):=by
 unfold yx
 rw[if_neg (by omega)]
 exact DQ hN hk
theorem UX {v0 v11 v13:AV} {g:H} {cs:List AV} {N k:Nat} (hN:cs.length=N) (h0:0<N) (hk:k≤N) (e:v11=yx 1 N cs) (u:aR AP.A 31 [yx 1 N cs,.int .i64 257] g=some (.int .i64 k,g)):aL (aR AP.A) bp (at_ 7 AP.f13.body) [(0,v0),(11,v11),(13,v13)] g=some (.normal,[(0,v0),(11,.aV false cs 0 k 1),(13,v13)],g):=by
 subst e
 have s:=KY (h:=g) hN h0 hk
 generalize yx 1 N cs=S at *
 simp (disch:=omega)only[go_sem,wc,AP.f13,xL,xO,u,s]
theorem UY {v0 v11 v13:AV} {g:H} {cs:List AV} {N k:Nat} (hN:cs.length=N) (h0:0<N) (hk:k≤N) (e:v13=yx 1 N cs) (u:aR AP.A 31 [yx 1 N cs,.int .i64 1] g=some (.int .i64 k,g)):aL (aR AP.A) bp (at_ 8 AP.f13.body) [(0,v0),(11,v11),(13,v13)] g=some (.normal,[(0,v0),(11,v11),(13,.aV false cs 0 k 1)],g):=by
 subst e
 have s:=KY (h:=g) hN h0 hk
 generalize yx 1 N cs=S at *
 simp (disch:=omega)only[go_sem,wc,AP.f13,xL,xO,u,s]
theorem UZ {v0 v11 v13 v15:AV} {g g2:H} (p:kS (g.alloc []) 1 8 (.aF g.next 0 0 1) v11=some (v15,g2)):aL (aR AP.A) bp (at_ 9 AP.f13.body) [(0,v0),(11,v11),(13,v13)] g=some (.normal,[(0,v0),(11,v11),(13,v13),(15,v15)],g2):=by
 simp (disch:=omega)only[go_sem,wc,AP.f13,xL,xO,p]
theorem Tw {v0 v11 v13 v15 v16:AV} {g g2:H} (p:kS g 1 8 v15 v13=some (v16,g2)):aL (aR AP.A) bp (at_ 10 AP.f13.body) [(0,v0),(11,v11),(13,v13),(15,v15)] g=some (.normal,[(0,v0),(11,v11),(13,v13),(15,v16)],g2):=by
 simp (disch:=omega)only[go_sem,wc,AP.f13,xL,xO,p]
theorem TC {v0 v11 v13 v15:AV} {g:H}:aL (aR AP.A) bp (at_ 11 AP.f13.body) [(0,v0),(11,v11),(13,v13),(15,v15)] g=some (.normal,[(0,v0),(11,v11),(13,v13),(15,v15),(16,.aF g.next 0 19 1)],(g.alloc (yo 19 [.int .i64 0]))):=by
 simp (disch:=omega)only[go_sem,wc,AP.f13,xL,xO]
theorem TG {v0 v11 v13 v15 v18 v20:AV} {g:H}:aL (aR AP.A) bp (at_ 15 AP.f13.body) [(0,v0),(11,v11),(13,v13),(15,v15),(18,v18),(20,v20)] g=some (.normal,[(0,v0),(11,v11),(13,v13),(15,v15),(18,v18),(20,v20),(21,.aF g.next 0 19 1)],(g.alloc (yo 19 [.int .i64 0]))):=by
 simp (disch:=omega)only[go_sem,wc,AP.f13,xL,xO]
theorem TD {v0 v11 v13 v15 v16 x17 x122:AV} {g g2:H} (L:Lp AP.A [0,11,13,15,16,17] AP.f13L3 [(0,v0),(11,v11),(13,v13),(15,v15),(16,v16),(17,.int .i64 0)] g=some (.exit 2,[(0,v0),(11,v11),(13,v13),(15,v15),(16,v16),(17,x17),(122,x122)],g2)):aL (aR AP.A) bp (at_ 12 AP.f13.body) [(0,v0),(11,v11),(13,v13),(15,v15),(16,v16)] g=some (.normal,[(0,v0),(11,v11),(13,v13),(15,v15),(16,v16)],g2):=by
 simp (disch:=omega)only[go_sem,wc,AP.f13,xL,xO,sX,L]
theorem TH {v0 v11 v13 v15 v18 v20 v21 x22 x142:AV} {g g2:H} (L:Lp AP.A [0,11,13,15,18,20,21,22] AP.f13L2 [(0,v0),(11,v11),(13,v13),(15,v15),(18,v18),(20,v20),(21,v21),(22,.int .i64 0)] g=some (.exit 4,[(0,v0),(11,v11),(13,v13),(15,v15),(18,v18),(20,v20),(21,v21),(22,x22),(142,x142)],g2)):aL (aR AP.A) bp (at_ 16 AP.f13.body) [(0,v0),(11,v11),(13,v13),(15,v15),(18,v18),(20,v20),(21,v21)] g=some (.normal,[(0,v0),(11,v11),(13,v13),(15,v15),(18,v18),(21,v21)],g2):=by
 simp (disch:=omega)only[go_sem,wc,AP.f13,xL,xO,sX,L]
theorem UT {v0 v4 v5 x6 x43:AV} {g g2:H} (L:Lp AP.A [0,4,5,6] AP.f13L4 [(0,v0),(4,v4),(5,v5),(6,.int .i64 0)] g=some (.exit 0,[(0,v0),(4,v4),(5,v5),(6,x6),(43,x43)],g2)):aL (aR AP.A) bp (at_ 4 AP.f13.body) [(0,v0),(4,v4),(5,v5)] g=some (.normal,[(0,v0),(4,v4),(5,v5)],g2):=by
 simp (disch:=omega)only[go_sem,wc,AP.f13,xL,xO,sX,L]
theorem UR {v0:AV} {g:H}:aL (aR AP.A) bp (at_ 2 AP.f13.body) [(0,v0)] g=some (.normal,[(0,v0),(4,.aF g.next 0 286 1),(5,.aF (g.next+1) 0 30 1)],(g.alloc (yo 286 [.int .i64 0])).alloc (yo 30 [.int .i64 0])):=by
 simp (disch:=first|omega|(simp only[wY,Vy,VC,vF,Nat.reduceAdd];first|done|omega|fail)|(simp (disch:=first|omega|(simp only[wY,Vy,VC,vF,Nat.reduceAdd];first|done|omega|fail)|fail)only[wY,zX,VG,Vy,VC,vF,Nat.reduceAdd];done)|fail)only[go_sem,wc,zW,AP.f13,xL,xO]
theorem US {v0 v5:AV} {g:H} {ia:Nat} {A:List AV} (ga:g.get ia=some A) (hA:A.length=286) (fa:g.floor≤ia):aL (aR AP.A) bp (at_ 3 AP.f13.body) [(0,v0),(4,.aF ia 0 286 1),(5,v5)] g=some (.normal,[(0,v0),(4,.aF ia 0 286 1),(5,v5)],g.set ia (A.set 256 (.int .i64 1))):=by
 simp (disch:=omega)only[go_sem,wc,AP.f13,xL,xO,ga,hA]
theorem M5:AP.f13.body=.seq (at_ 0 AP.f13.body) (.seq (at_ 1 AP.f13.body) (.seq (at_ 2 AP.f13.body) (.seq (at_ 3 AP.f13.body) (.seq (at_ 4 AP.f13.body) (.seq (at_ 5 AP.f13.body) (.seq (at_ 6 AP.f13.body) (.seq (at_ 7 AP.f13.body) (.seq (at_ 8 AP.f13.body) (.seq (at_ 9 AP.f13.body) (.seq (at_ 10 AP.f13.body) (.seq (at_ 11 AP.f13.body) (.seq (at_ 12 AP.f13.body) (.seq (at_ 13 AP.f13.body) (.seq (at_ 14 AP.f13.body) (.seq (at_ 15 AP.f13.body) (.seq (at_ 16 AP.f13.body) (.seq (at_ 17 AP.f13.body) (.seq (at_ 18 AP.f13.body) (.seq (at_ 19 AP.f13.body) (.seq (at_ 20 AP.f13.body) (.seq (at_ 21 AP.f13.body) (.seq (at_ 22 AP.f13.body) (.seq (at_ 23 AP.f13.body) (.seq (at_ 24 AP.f13.body) (.seq (at_ 25 AP.f13.body) (.seq (at_ 26 AP.f13.body) (.seq (at_ 27 AP.f13.body) (.seq (at_ 28 AP.f13.body) ((JT 29 AP.f13.body)))))))))))))))))))))))))))))):=rfl
end Ab
